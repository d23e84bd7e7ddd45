import PyProof.Rows.All
import Wide.All
import OpenK.AllK
import Wide.FinOn
import PySem.Challenge.RW_sharedreads_k16_spoilt_texts
import HandS.ForExc
import HandS.ForMost
import HandS.TupAny
import HandS.TupMul
import HandS.IsInst
import HandS.Flow
import HandS.Codes
import HandS.Zip
import HandS.Style
import HandS.TupLe
import HandS.Dict
import HandS.TryMany
import HandS.DictComp
import HandS.Iter
import HandS.Small
import KE.KDictPairs
import HandS.Strs
import PyProof.Rows.SortShellAny
import HandS.Text
import HandS.RaiseMore
import HandS.Defaults
import HandS.Head0
import HandS.Head1
import HandS.Head2
import HandS.HeadEnd
import HandS.HeadHook1
import HandS.HeadHook2
import HandS.Replace
import HandS.ReplaceLit
set_option Elab.async false
set_option linter.all false
set_option maxRecDepth 100000
/-! DL: data over the hand layer. A value is told by data D (tuples and frozen lists by their items, any depth), what is changed stands in a map M of mutable objects; the judgements of the hand layer are lifted to readings over (slots of data, M). -/
namespace DL
open PySem L2

/-! ### data -/
inductive D where
  | non | bl (b : Bool) | int (i : Int) | str (s : List Nat) | tup (ds : List D) | lst (ds : List D) | ref (a : Addr) | ty (n : String)
  deriving Inhabited

/-- what is changed -/
inductive MO where
  | lst (ds : List D)
  | dic (kvs : List (Key × D))
  | ins (C : Addr) (fs : List (Str × D))
  /-- held by a comprehension that runs -/
  | hid
  /-- a dict that is walked -/
  | dicL (kvs : List (Key × D))
  /-- a tuple whose object is known exactly -/
  | tupX (ds : List D)
  /-- any other thing, by its shape over what it holds; the same while it is walked -/
  | gen (sh : List V → HO) (ds : List D)
  | genL (sh : List V → HO) (ds : List D)
abbrev Mm := Addr → Option MO
def mu (M : Mm) (p : Addr) (o : MO) : Mm := fun q => if q = p then some o else M q
def me (M : Mm) (p : Addr) : Mm := fun q => if q = p then none else M q
theorem mu_same {M : Mm} {p : Addr} {o : MO} : mu M p o p = some o := by unfold mu; rw [if_pos rfl]
theorem mu_ne {M : Mm} {p q : Addr} {o : MO} (h : q ≠ p) : mu M p o q = M q := by unfold mu; rw [if_neg h]
theorem mu_mu {M : Mm} {p : Addr} {o u : MO} : mu (mu M p o) p u = mu M p u := by funext q; unfold mu; split <;> rfl
theorem me_mu {M : Mm} {p : Addr} {o : MO} (h : M p = none) : me (mu M p o) p = M := by
  funext q; unfold me mu; split
  · rename_i e; rw [e, h]
  · rfl

/-- nothing is known here, or a tuple -/
def Qt (o : Option MO) : Prop := o = none ∨ ∃ ds, o = some (.tupX ds)
theorem Qt.no {o : Option MO} (h : o = none) : Qt o := .inl h
/-- a tuple (a list) that stands still -/
def TupAt (K : PySem.W.Frag) (M : Mm) (H : Hp) (a : Addr) (xs : List V) : Prop :=
  (Qt (M a) ∧ Rd H a (.tup xs)) ∨
    ∃ (o : Obj) (its : Array Value) (n : Nat), K.lookup a = some o ∧ o.cls = .type "tuple" ∧ o.data = .seq its n ∧ its.size ≤ sizeLine ∧ Vals xs its.toList
def LstAt (K : PySem.W.Frag) (M : Mm) (H : Hp) (a : Addr) (xs : List V) : Prop :=
  (Qt (M a) ∧ Rd H a (.lst xs)) ∨
    ∃ (o : Obj) (its : Array Value) (n : Nat), K.lookup a = some o ∧ o.cls = .type "list" ∧ o.dict = none ∧ o.data = .seq its n ∧ its.size ≤ sizeLine ∧ Vals xs its.toList
theorem TupAt.sq {K : PySem.W.Frag} {M : Mm} {H : Hp} {a : Addr} {xs : List V} (h : TupAt K M H a xs) : SqT K H a xs := by
  rcases h with ⟨_, h⟩ | h
  · exact .inl h
  · exact .inr h
theorem LstAt.sq {K : PySem.W.Frag} {M : Mm} {H : Hp} {a : Addr} {xs : List V} (h : LstAt K M H a xs) : SqL K H a xs := by
  rcases h with ⟨_, h⟩ | h
  · exact .inl h
  · exact .inr h

mutual
def Rep (K : PySem.W.Frag) (M : Mm) (H : Hp) : D → V → Prop
  | .non, v => v = .non
  | .bl b, v => v = .bl b
  | .int i, v => v = .int i
  | .str s, v => v = .str ⟨s.toArray⟩ ∧ s.length ≤ sizeLine
  | .ref a, v => v = .ref a
  | .ty n, v => v = .ty n
  | .tup ds, v => ∃ a vs, v = .ref a ∧ TupAt K M H a vs ∧ Reps K M H ds vs
  | .lst ds, v => ∃ a vs, v = .ref a ∧ LstAt K M H a vs ∧ Reps K M H ds vs
def Reps (K : PySem.W.Frag) (M : Mm) (H : Hp) : List D → List V → Prop
  | [], vs => vs = []
  | d :: ds, vs => ∃ v vr, vs = v :: vr ∧ Rep K M H d v ∧ Reps K M H ds vr
end

/-- what is not changed -/
def Still : Option MO → Prop
  | none => True
  | some .hid => True
  | some (.dicL _) => True
  | some (.tupX _) => True
  | some (.genL _ _) => True
  | _ => False
/-- what stood still stands still -/
def Ev (M : Mm) (H : Hp) (M' : Mm) (H' : Hp) : Prop := ∀ a o, H a = some o → Still (M a) → H' a = some o ∧ M' a = M a
theorem Ev.refl {M : Mm} {H : Hp} : Ev M H M H := fun _ _ h n => ⟨h, rfl⟩
theorem Ev.trans {M M1 M2 : Mm} {H H1 H2 : Hp} (a : Ev M H M1 H1) (b : Ev M1 H1 M2 H2) : Ev M H M2 H2 := fun c o h n =>
  let ⟨h1, n1⟩ := a c o h n
  let ⟨h2, n2⟩ := b c o h1 (by rw [n1]; exact n)
  ⟨h2, n2.trans n1⟩
theorem Ev.non {M M' : Mm} {H H' : Hp} (e : Ev M H M' H') {a : Addr} {o : HO} (h : H a = some o) (n : M a = none) : H' a = some o ∧ M' a = none := by
  obtain ⟨h1, h2⟩ := e a o h (by rw [n]; trivial)
  exact ⟨h1, h2.trans n⟩
theorem Qt.still {o : Option MO} (h : Qt o) : Still o := by
  rcases h with h | ⟨ds, h⟩ <;> rw [h] <;> trivial
theorem Ev.qt {M M' : Mm} {H H' : Hp} (e : Ev M H M' H') {a : Addr} {o : HO} (h : H a = some o) (n : Qt (M a)) : H' a = some o ∧ Qt (M' a) := by
  obtain ⟨h1, h2⟩ := e a o h n.still
  exact ⟨h1, by rw [h2]; exact n⟩
section
variable {K : PySem.W.Frag} {M M' : Mm} {H H' : Hp}
theorem Ev.tup {a : Addr} {xs : List V} (e : Ev M H M' H') (h : TupAt K M H a xs) : TupAt K M' H' a xs := by
  rcases h with ⟨n, h | ⟨o, h⟩⟩ | h
  · exact .inl ⟨(e.qt h n).2, .inl (e.qt h n).1⟩
  · exact .inl ⟨(e.qt h n).2, .inr ⟨o, (e.qt h n).1⟩⟩
  · exact .inr h
theorem Ev.lst {a : Addr} {xs : List V} (e : Ev M H M' H') (h : LstAt K M H a xs) : LstAt K M' H' a xs := by
  rcases h with ⟨n, h | ⟨o, h⟩⟩ | h
  · exact .inl ⟨(e.qt h n).2, .inl (e.qt h n).1⟩
  · exact .inl ⟨(e.qt h n).2, .inr ⟨o, (e.qt h n).1⟩⟩
  · exact .inr h
mutual
theorem Ev.rep (e : Ev M H M' H') : ∀ (d : D) (v : V), Rep K M H d v → Rep K M' H' d v
  | .non, _, h => h
  | .bl _, _, h => h
  | .int _, _, h => h
  | .str _, _, h => h
  | .ref _, _, h => h
  | .ty _, _, h => h
  | .tup ds, v, h => by
    unfold Rep at h ⊢
    obtain ⟨a, vs, r, t, q⟩ := h
    exact ⟨a, vs, r, e.tup t, Ev.reps e ds vs q⟩
  | .lst ds, v, h => by
    unfold Rep at h ⊢
    obtain ⟨a, vs, r, t, q⟩ := h
    exact ⟨a, vs, r, e.lst t, Ev.reps e ds vs q⟩
theorem Ev.reps (e : Ev M H M' H') : ∀ (ds : List D) (vs : List V), Reps K M H ds vs → Reps K M' H' ds vs
  | [], _, h => h
  | d :: ds, vs, h => by
    unfold Reps at h ⊢
    obtain ⟨v, vr, r, t, q⟩ := h
    exact ⟨v, vr, r, Ev.rep e d v t, Ev.reps e ds vr q⟩
end
theorem Reps.length : ∀ {ds : List D} {vs : List V}, Reps K M H ds vs → ds.length = vs.length
  | [], vs, h => by unfold Reps at h; subst h; rfl
  | d :: ds, vs, h => by
    unfold Reps at h
    obtain ⟨v, vr, rfl, _, q⟩ := h
    simp [Reps.length q]
theorem Reps.get : ∀ {ds : List D} {vs : List V} {i : Nat} {d : D}, Reps K M H ds vs → ds[i]? = some d → ∃ v, vs[i]? = some v ∧ Rep K M H d v
  | [], _, _, _, _, e => by simp at e
  | d :: ds, vs, 0, x, h, e => by
    unfold Reps at h
    obtain ⟨v, vr, rfl, r, q⟩ := h
    simp at e
    subst e
    exact ⟨v, rfl, r⟩
  | d :: ds, vs, i + 1, x, h, e => by
    unfold Reps at h
    obtain ⟨v, vr, rfl, r, q⟩ := h
    obtain ⟨u, e1, r1⟩ := Reps.get (i := i) q (by simpa using e)
    exact ⟨u, by simpa using e1, r1⟩
theorem Reps.append : ∀ {ds es : List D} {vs us : List V}, Reps K M H ds vs → Reps K M H es us → Reps K M H (ds ++ es) (vs ++ us)
  | [], es, vs, us, h, q => by unfold Reps at h; subst h; exact q
  | d :: ds, es, vs, us, h, q => by
    unfold Reps at h
    obtain ⟨v, vr, rfl, r, t⟩ := h
    rw [List.cons_append, List.cons_append]
    unfold Reps
    exact ⟨v, vr ++ us, rfl, r, Reps.append t q⟩
theorem Reps.take : ∀ {ds : List D} {vs : List V} (n : Nat), Reps K M H ds vs → Reps K M H (ds.take n) (vs.take n)
  | _, _, 0, _ => by simp [Reps]
  | [], vs, n + 1, h => by unfold Reps at h; subst h; simp [Reps]
  | d :: ds, vs, n + 1, h => by
    unfold Reps at h
    obtain ⟨v, vr, rfl, r, t⟩ := h
    simp only [List.take_succ_cons]
    unfold Reps
    exact ⟨v, _, rfl, r, Reps.take n t⟩
theorem Reps.drop : ∀ {ds : List D} {vs : List V} (n : Nat), Reps K M H ds vs → Reps K M H (ds.drop n) (vs.drop n)
  | _, _, 0, h => by simpa using h
  | [], vs, n + 1, h => by unfold Reps at h; subst h; simp [Reps]
  | d :: ds, vs, n + 1, h => by
    unfold Reps at h
    obtain ⟨v, vr, rfl, r, t⟩ := h
    simp only [List.drop_succ_cons]
    exact Reps.drop n t
theorem Reps.set {d : D} {v : V} (r : Rep K M H d v) : ∀ {ds : List D} {vs : List V} (n : Nat), Reps K M H ds vs → Reps K M H (ds.set n d) (vs.set n v)
  | [], vs, n, h => by unfold Reps at h; subst h; simp [Reps]
  | x :: ds, vs, 0, h => by
    unfold Reps at h
    obtain ⟨u, vr, rfl, q, t⟩ := h
    simp only [List.set_cons_zero]
    unfold Reps
    exact ⟨v, _, rfl, r, t⟩
  | x :: ds, vs, n + 1, h => by
    unfold Reps at h
    obtain ⟨u, vr, rfl, q, t⟩ := h
    simp only [List.set_cons_succ]
    unfold Reps
    exact ⟨u, _, rfl, q, Reps.set r n t⟩
theorem Reps.nil : Reps K M H [] [] := by unfold Reps; rfl
theorem Reps.cons {d : D} {ds : List D} {v : V} {vs : List V} (r : Rep K M H d v) (t : Reps K M H ds vs) : Reps K M H (d :: ds) (v :: vs) := by unfold Reps; exact ⟨v, vs, rfl, r, t⟩
theorem Reps.one {d : D} {v : V} (r : Rep K M H d v) : Reps K M H [d] [v] := .cons r .nil
theorem Reps.inv {d : D} {ds : List D} {vs : List V} (h : Reps K M H (d :: ds) vs) : ∃ v vr, vs = v :: vr ∧ Rep K M H d v ∧ Reps K M H ds vr := by unfold Reps at h; exact h
theorem Reps.nil_inv {vs : List V} (h : Reps K M H [] vs) : vs = [] := by unfold Reps at h; exact h
theorem Reps.cat_inv : ∀ {ds es : List D} {vs : List V}, Reps K M H (ds ++ es) vs → ∃ us ws, vs = us ++ ws ∧ Reps K M H ds us ∧ Reps K M H es ws
  | [], es, vs, h => ⟨[], vs, rfl, .nil, h⟩
  | d :: ds, es, vs, h => by
    obtain ⟨v, vr, rfl, r, t⟩ := Reps.inv h
    obtain ⟨us, ws, rfl, q1, q2⟩ := Reps.cat_inv t
    exact ⟨v :: us, ws, rfl, .cons r q1, q2⟩
end

/-- a mutable object as it stands -/
def Fs (K : PySem.W.Frag) (M : Mm) (H : Hp) : List (Str × D) → List (Str × V) → Prop
  | [], vs => vs = []
  | (f, d) :: r, vs => ∃ v vr, vs = (f, v) :: vr ∧ Rep K M H d v ∧ Fs K M H r vr
def Ks (K : PySem.W.Frag) (M : Mm) (H : Hp) : List (Key × D) → List (Key × V) → Prop
  | [], vs => vs = []
  | (f, d) :: r, vs => ∃ v vr, vs = (f, v) :: vr ∧ Rep K M H d v ∧ Ks K M H r vr
def RepO (K : PySem.W.Frag) (M : Mm) (H : Hp) (p : Addr) : MO → Prop
  | .lst ds => ∃ vs, H p = some (.lst vs) ∧ Reps K M H ds vs
  | .dic kvs => ∃ vs, H p = some (.dK vs) ∧ Ks K M H kvs vs
  | .ins C fs => ∃ dx vs, H p = some (.ins C dx vs) ∧ Fs K M H fs vs
  | .hid => ∃ u, H p = some u
  | .dicL kvs => ∃ od vs, H p = some (.frz od (.dK vs)) ∧ Ks K M H kvs vs
  | .tupX ds => ∃ od vs, H p = some (.frz od (.tup vs)) ∧ od.dict = none ∧ Reps K M H ds vs
  | .gen sh ds => ∃ vs, H p = some (sh vs) ∧ Reps K M H ds vs
  | .genL sh ds => ∃ od vs, H p = some (.frz od (sh vs)) ∧ Reps K M H ds vs
def RepM (K : PySem.W.Frag) (M : Mm) (H : Hp) : Prop := ∀ p o, M p = some o → RepO K M H p o
section
variable {K : PySem.W.Frag} {M M' : Mm} {H H' : Hp}
theorem Ev.fs (e : Ev M H M' H') : ∀ {ds : List (Str × D)} {vs : List (Str × V)}, Fs K M H ds vs → Fs K M' H' ds vs
  | [], _, h => h
  | (f, d) :: r, vs, h => by
    unfold Fs at h ⊢
    obtain ⟨v, vr, e1, q, t⟩ := h
    exact ⟨v, vr, e1, e.rep _ _ q, Ev.fs e t⟩
theorem Ev.ks (e : Ev M H M' H') : ∀ {ds : List (Key × D)} {vs : List (Key × V)}, Ks K M H ds vs → Ks K M' H' ds vs
  | [], _, h => h
  | (f, d) :: r, vs, h => by
    unfold Ks at h ⊢
    obtain ⟨v, vr, e1, q, t⟩ := h
    exact ⟨v, vr, e1, e.rep _ _ q, Ev.ks e t⟩
theorem Ev.obj (e : Ev M H M' H') {p : Addr} {o : MO} (h : RepO K M H p o) (hp : H' p = H p) : RepO K M' H' p o := by
  cases o with
  | lst ds => obtain ⟨vs, a, b⟩ := h; exact ⟨vs, by rw [hp, a], e.reps _ _ b⟩
  | dic ds => obtain ⟨vs, a, b⟩ := h; exact ⟨vs, by rw [hp, a], e.ks b⟩
  | ins C ds => obtain ⟨dx, vs, a, b⟩ := h; exact ⟨dx, vs, by rw [hp, a], e.fs b⟩
  | hid => obtain ⟨u, a⟩ := h; exact ⟨u, by rw [hp, a]⟩
  | dicL ds => obtain ⟨od, vs, a, b⟩ := h; exact ⟨od, vs, by rw [hp, a], e.ks b⟩
  | tupX ds => obtain ⟨od, vs, a, c, b⟩ := h; exact ⟨od, vs, by rw [hp, a], c, e.reps _ _ b⟩
  | gen sh ds => obtain ⟨vs, a, b⟩ := h; exact ⟨vs, by rw [hp, a], e.reps _ _ b⟩
  | genL sh ds => obtain ⟨od, vs, a, b⟩ := h; exact ⟨od, vs, by rw [hp, a], e.reps _ _ b⟩
theorem RepO.some {p : Addr} {o : MO} (h : RepO K M H p o) : ∃ u, H p = some u := by
  cases o with
  | lst ds => obtain ⟨vs, a, b⟩ := h; exact ⟨_, a⟩
  | dic ds => obtain ⟨vs, a, b⟩ := h; exact ⟨_, a⟩
  | ins C ds => obtain ⟨dx, vs, a, b⟩ := h; exact ⟨_, a⟩
  | hid => exact h
  | dicL ds => obtain ⟨od, vs, a, b⟩ := h; exact ⟨_, a⟩
  | tupX ds => obtain ⟨od, vs, a, c, b⟩ := h; exact ⟨_, a⟩
  | gen sh ds => obtain ⟨vs, a, b⟩ := h; exact ⟨_, a⟩
  | genL sh ds => obtain ⟨od, vs, a, b⟩ := h; exact ⟨_, a⟩
/-- a new object that stands still -/
theorem Ev.new {p : Addr} {o : HO} (hp : H p = none) : Ev M H M (upd H p o) := fun a u h n => by
  refine ⟨?_, rfl⟩
  rw [upd_ne (ne_of_none h hp)]
  exact h
theorem RepM.new (r : RepM K M H) {p : Addr} {o : HO} (hp : H p = none) : RepM K M (upd H p o) := fun q u h => by
  have w := r q u h
  obtain ⟨x, hx⟩ := w.some
  exact (Ev.new hp).obj w (upd_ne (ne_of_none hx hp))
theorem RepM.free (r : RepM K M H) {p : Addr} (hp : H p = none) : M p = none := by
  cases e : M p with
  | none => rfl
  | some o =>
    obtain ⟨x, hx⟩ := (r p o e).some
    rw [hp] at hx
    cases hx
/-- a new mutable object -/
theorem Ev.newM {p : Addr} {o : HO} {m : MO} (hp : H p = none) : Ev M H (mu M p m) (upd H p o) := fun a u h n => by
  have z := ne_of_none h hp
  exact ⟨by rw [upd_ne z]; exact h, mu_ne z⟩
/-- a mutable object changes -/
theorem Ev.setM {p : Addr} {o : HO} {m' : MO} (hp : ¬ Still (M p)) : Ev M H (mu M p m') (upd H p o) := fun a u h n => by
  have z : a ≠ p := fun e => by rw [e] at n; exact hp n
  exact ⟨by rw [upd_ne z]; exact h, mu_ne z⟩
theorem RepM.newM (r : RepM K M H) {p : Addr} {o : HO} {m : MO} (hp : H p = none) (h : RepO K (mu M p m) (upd H p o) p m) : RepM K (mu M p m) (upd H p o) := fun q u e => by
  by_cases hq : q = p
  · subst hq
    rw [mu_same] at e
    cases e
    exact h
  · rw [mu_ne hq] at e
    exact (Ev.newM hp).obj (r q u e) (upd_ne hq)
theorem RepM.setM (r : RepM K M H) {p : Addr} {o : HO} {m' : MO} (hp : ¬ Still (M p)) (h : RepO K (mu M p m') (upd H p o) p m') : RepM K (mu M p m') (upd H p o) := fun q u e => by
  by_cases hq : q = p
  · subst hq
    rw [mu_same] at e
    cases e
    exact h
  · rw [mu_ne hq] at e
    exact (Ev.setM hp).obj (r q u e) (upd_ne hq)
/-- a mutable object stands still from now on -/
theorem Ev.freeze {p : Addr} (hp : ¬ Still (M p)) : Ev M H (me M p) H := fun a o h n => by
  have z : a ≠ p := fun e => by rw [e] at n; exact hp n
  exact ⟨h, by unfold me; rw [if_neg z]⟩
/-- data keep standing where fewer objects are mutable -/
theorem Rep.less (k : ∀ a, Qt (M a) → Qt (M' a)) : ∀ (d : D) (v : V), Rep K M H d v → Rep K M' H d v
  | .non, _, h => h
  | .bl _, _, h => h
  | .int _, _, h => h
  | .str _, _, h => h
  | .ref _, _, h => h
  | .ty _, _, h => h
  | .tup ds, v, h => by
    unfold Rep at h ⊢
    obtain ⟨a, vs, r, t, q⟩ := h
    refine ⟨a, vs, r, ?_, ?_⟩
    · rcases t with ⟨n, h⟩ | h
      · exact .inl ⟨k _ n, h⟩
      · exact .inr h
    · exact lessAll ds vs q
  | .lst ds, v, h => by
    unfold Rep at h ⊢
    obtain ⟨a, vs, r, t, q⟩ := h
    refine ⟨a, vs, r, ?_, ?_⟩
    · rcases t with ⟨n, h⟩ | h
      · exact .inl ⟨k _ n, h⟩
      · exact .inr h
    · exact lessAll ds vs q
where lessAll : ∀ (ds : List D) (vs : List V), Reps K M H ds vs → Reps K M' H ds vs
  | [], _, h => h
  | d :: ds, vs, h => by
    unfold Reps at h ⊢
    obtain ⟨v, vr, r, t, q⟩ := h
    exact ⟨v, vr, r, Rep.less k d v t, lessAll ds vr q⟩
theorem Reps.less (k : ∀ a, Qt (M a) → Qt (M' a)) {ds : List D} {vs : List V} (h : Reps K M H ds vs) : Reps K M' H ds vs := Rep.less.lessAll k ds vs h
theorem Fs.less (k : ∀ a, Qt (M a) → Qt (M' a)) : ∀ {ds : List (Str × D)} {vs : List (Str × V)}, Fs K M H ds vs → Fs K M' H ds vs
  | [], _, h => h
  | (f, d) :: r, vs, h => by
    unfold Fs at h ⊢
    obtain ⟨v, vr, e1, q, t⟩ := h
    exact ⟨v, vr, e1, Rep.less k _ _ q, Fs.less k t⟩
theorem Ks.less (k : ∀ a, Qt (M a) → Qt (M' a)) : ∀ {ds : List (Key × D)} {vs : List (Key × V)}, Ks K M H ds vs → Ks K M' H ds vs
  | [], _, h => h
  | (f, d) :: r, vs, h => by
    unfold Ks at h ⊢
    obtain ⟨v, vr, e1, q, t⟩ := h
    exact ⟨v, vr, e1, Rep.less k _ _ q, Ks.less k t⟩
theorem RepO.less (k : ∀ a, Qt (M a) → Qt (M' a)) {p : Addr} {o : MO} (h : RepO K M H p o) : RepO K M' H p o := by
  cases o with
  | lst ds => obtain ⟨vs, a, b⟩ := h; exact ⟨vs, a, b.less k⟩
  | dic ds => obtain ⟨vs, a, b⟩ := h; exact ⟨vs, a, b.less k⟩
  | ins C ds => obtain ⟨dx, vs, a, b⟩ := h; exact ⟨dx, vs, a, b.less k⟩
  | hid => exact h
  | dicL ds => obtain ⟨od, vs, a, b⟩ := h; exact ⟨od, vs, a, b.less k⟩
  | tupX ds => obtain ⟨od, vs, a, c, b⟩ := h; exact ⟨od, vs, a, c, b.less k⟩
  | gen sh ds => obtain ⟨vs, a, b⟩ := h; exact ⟨vs, a, b.less k⟩
  | genL sh ds => obtain ⟨od, vs, a, b⟩ := h; exact ⟨od, vs, a, b.less k⟩
theorem me_qt {p : Addr} : ∀ a, Qt (M a) → Qt (me M p a) := fun a n => by unfold me; split; exact .inl rfl; exact n
theorem me_none {p : Addr} : ∀ a, M a = none → me M p a = none := fun a n => by unfold me; split; rfl; exact n
theorem RepM.freeze (r : RepM K M H) {p : Addr} : RepM K (me M p) H := fun q o h => by
  unfold me at h
  split at h
  · cases h
  · exact (r q o h).less me_qt
theorem Rep.tupNew {ds : List D} {vs : List V} {p : Addr} (rm : RepM K M H) (hp : H p = none) (r : Reps K M H ds vs) : Rep K M (upd H p (.tup vs)) (.tup ds) (.ref p) := by
  unfold Rep
  exact ⟨p, vs, rfl, .inl ⟨.inl (rm.free hp), .inl upd_same⟩, (Ev.new hp).reps _ _ r⟩
theorem Rep.lstNew {ds : List D} {vs : List V} {p : Addr} (rm : RepM K M H) (hp : H p = none) (r : Reps K M H ds vs) : Rep K M (upd H p (.lst vs)) (.lst ds) (.ref p) := by
  unfold Rep
  exact ⟨p, vs, rfl, .inl ⟨.inl (rm.free hp), .inl upd_same⟩, (Ev.new hp).reps _ _ r⟩
end

/-! ### slots -/
/-- what the body's entry asks to stand through all of it -/
structure Jc where
  p : Mm → Hp → Prop
  cl : ∀ {M H M' H'}, p M H → Ev M H M' H' → p M' H'
/-- all that stood still at the entry stands still -/
def Jc.of (M : Mm) (H : Hp) : Jc := ⟨fun M' H' => Ev M H M' H', fun a b => a.trans b⟩
abbrev Sg := List (Option D)
def RepS (K : PySem.W.Frag) (J : Jc) (M : Mm) (H : Hp) (σd : Sg) (σ : L2.St) : Prop := (σd.length = σ.length ∧ J.p M H) ∧ ∀ (i : Nat) (d : D), σd[i]? = some (some d) → ∃ v, σ[i]? = some (some v) ∧ Rep K M H d v
section
variable {K : PySem.W.Frag} {J : Jc} {M M' : Mm} {H H' : Hp} {σd : Sg} {σ : L2.St}
theorem Ev.slots (e : Ev M H M' H') (h : RepS K J M H σd σ) : RepS K J M' H' σd σ := ⟨⟨h.1.1, J.cl h.1.2 e⟩, fun i d q => by
  obtain ⟨v, a, b⟩ := h.2 i d q
  exact ⟨v, a, e.rep _ _ b⟩⟩
theorem RepS.set (h : RepS K J M H σd σ) {d : D} {v : V} (r : Rep K M H d v) (i : Nat) : RepS K J M H (σd.set i (some d)) (σ.set i (some v)) := by
  refine ⟨⟨by simp [h.1.1], h.1.2⟩, fun j x q => ?_⟩
  by_cases hj : i = j
  · subst hj
    by_cases hl : i < σd.length
    · rw [List.getElem?_set_self hl] at q
      cases q
      exact ⟨v, by rw [List.getElem?_set_self (by rw [← h.1.1]; exact hl)], r⟩
    · rw [List.getElem?_eq_none (by simpa using hl)] at q
      cases q
  · rw [List.getElem?_set_ne hj] at q
    obtain ⟨u, a, b⟩ := h.2 j x q
    exact ⟨u, by rw [List.getElem?_set_ne hj]; exact a, b⟩
theorem RepS.unset (h : RepS K J M H σd σ) (i : Nat) : RepS K J M H (σd.set i none) (σ.set i none) := by
  refine ⟨⟨by simp [h.1.1], h.1.2⟩, fun j x q => ?_⟩
  by_cases hj : i = j
  · subst hj
    by_cases hl : i < σd.length
    · rw [List.getElem?_set_self hl] at q
      cases q
    · rw [List.getElem?_eq_none (by simpa using hl)] at q
      cases q
  · rw [List.getElem?_set_ne hj] at q
    obtain ⟨u, a, b⟩ := h.2 j x q
    exact ⟨u, by rw [List.getElem?_set_ne hj]; exact a, b⟩
theorem RepS.start {ds : List D} {vs : List V} {n : Nat} (h : Reps K M H ds vs) (hj : J.p M H) : RepS K J M H (ds.map some ++ List.replicate (n - ds.length) none) (vs.map some ++ List.replicate (n - vs.length) none) := by
  have hl := h.length
  refine ⟨⟨by simp [hl], hj⟩, fun i d q => ?_⟩
  by_cases hi : i < ds.length
  · rw [List.getElem?_append_left (by simpa using hi), List.getElem?_map] at q
    cases e : ds[i]? with
    | none => rw [e] at q; cases q
    | some x =>
      rw [e] at q
      cases q
      obtain ⟨v, a, b⟩ := h.get e
      exact ⟨v, by rw [List.getElem?_append_left (by simpa [← hl] using hi), List.getElem?_map, a]; rfl, b⟩
  · rw [List.getElem?_append_right (by simpa using hi), List.getElem?_replicate] at q
    split at q <;> cases q
end
end DL

set_option Elab.async false
set_option linter.all false
set_option maxRecDepth 100000
/-! DL2: == of data. -/
namespace DL
open PySem L2
mutual
/-- == of data, nested below n; none: not served -/
def eqC : D → Nat → D → Option Bool
  | .non, _, .non => some true
  | .non, _, .bl _ => some false
  | .non, _, .int _ => some false
  | .non, _, .str _ => some false
  | .non, _, .tup _ => some false
  | .non, _, .lst _ => some false
  | .bl _, _, .non => some false
  | .bl a, _, .bl b => some (a == b)
  | .bl a, _, .int b => some ((if a then 1 else 0) == b)
  | .bl _, _, .str _ => some false
  | .bl _, _, .tup _ => some false
  | .bl _, _, .lst _ => some false
  | .int _, _, .non => some false
  | .int a, _, .bl b => some (a == (if b then 1 else 0))
  | .int a, _, .int b => some (a == b)
  | .int _, _, .str _ => some false
  | .int _, _, .tup _ => some false
  | .int _, _, .lst _ => some false
  | .str _, _, .non => some false
  | .str _, _, .bl _ => some false
  | .str _, _, .int _ => some false
  | .str a, _, .str b => some (a == b)
  | .str _, _, .tup _ => some false
  | .str _, _, .lst _ => some false
  | .tup _, _, .non => some false
  | .tup _, _, .bl _ => some false
  | .tup _, _, .int _ => some false
  | .tup _, _, .str _ => some false
  | .tup _, _, .lst _ => some false
  | .lst _, _, .non => some false
  | .lst _, _, .bl _ => some false
  | .lst _, _, .int _ => some false
  | .lst _, _, .str _ => some false
  | .lst _, _, .tup _ => some false
  | .tup xs, n + 1, .tup ys => (eqCs xs n ys).map (· && xs.length == ys.length)
  | .lst xs, n + 1, .lst ys => if xs.length = ys.length then eqCs xs n ys else some false
  | _, _, _ => none
def eqCs : List D → Nat → List D → Option Bool
  | [], _, _ => some true
  | _ :: _, _, [] => some true
  | x :: xs, n, y :: ys => (eqC x n y).bind fun a => (eqCs xs n ys).map fun b => a && b
end
theorem in1_units (A : Around) : A.in1.units = A.units + 1 := rfl
section
variable {K : PySem.W.Frag} {M : Mm} {H : Hp} {v : V}
theorem rep_non : Rep K M H .non v ↔ v = .non := by unfold Rep; exact Iff.rfl
theorem rep_bl {b : Bool} : Rep K M H (.bl b) v ↔ v = .bl b := by unfold Rep; exact Iff.rfl
theorem rep_int {i : Int} : Rep K M H (.int i) v ↔ v = .int i := by unfold Rep; exact Iff.rfl
theorem rep_str {x : List Nat} : Rep K M H (.str x) v ↔ v = .str ⟨x.toArray⟩ ∧ x.length ≤ sizeLine := by unfold Rep; exact Iff.rfl
theorem rep_ref {a : Addr} : Rep K M H (.ref a) v ↔ v = .ref a := by unfold Rep; exact Iff.rfl
theorem rep_ty {n : String} : Rep K M H (.ty n) v ↔ v = .ty n := by unfold Rep; exact Iff.rfl
theorem rep_tup {ds : List D} : Rep K M H (.tup ds) v ↔ ∃ a vs, v = .ref a ∧ TupAt K M H a vs ∧ Reps K M H ds vs := by unfold Rep; exact Iff.rfl
theorem rep_lst {ds : List D} : Rep K M H (.lst ds) v ↔ ∃ a vs, v = .ref a ∧ LstAt K M H a vs ∧ Reps K M H ds vs := by unfold Rep; exact Iff.rfl
end
section
variable {X : Cx} {pins : List (Addr × Obj)} {σ : L2.St} {H : Hp} {s : Shared} {M : Mm}
mutual
theorem eqC_same (I : Inv X pins σ H s) : ∀ (d : D) (n : Nat) (e : D) (b : Bool) (x : V), eqC d n e = some b → Rep X.K M H d x → Rep X.K M H e x → b = true
  | .non, n, e, b, x, h, r, q => by
    cases e <;> simp [rep_non, rep_bl, rep_int, rep_str, rep_tup, rep_lst, rep_ref, rep_ty, eqC] at r q h <;> (try subst r) <;> simp_all
  | .bl c, n, e, b, x, h, r, q => by
    cases e <;> simp [rep_non, rep_bl, rep_int, rep_str, rep_tup, rep_lst, rep_ref, rep_ty, eqC] at r q h <;> (try subst r) <;> simp_all
  | .int c, n, e, b, x, h, r, q => by
    cases e <;> simp [rep_non, rep_bl, rep_int, rep_str, rep_tup, rep_lst, rep_ref, rep_ty, eqC] at r q h <;> (try subst r) <;> simp_all
  | .str c, n, e, b, x, h, r, q => by
    unfold Rep at r
    obtain ⟨rfl, _⟩ := r
    cases e with
    | str c' =>
      unfold Rep at q
      obtain ⟨q, _⟩ := q
      injection q with q
      injection q with q
      have e : c = c' := by simpa using q
      subst e
      unfold eqC at h
      cases h
      simp
    | tup _ => unfold Rep at q; obtain ⟨_, _, q, _⟩ := q; cases q
    | lst _ => unfold Rep at q; obtain ⟨_, _, q, _⟩ := q; cases q
    | _ => unfold Rep at q; cases q
  | .tup ds, n, e, b, x, h, r, q => by
    unfold Rep at r
    obtain ⟨a, vs, rfl, t, rs⟩ := r
    cases e with
    | tup es =>
      unfold Rep at q
      obtain ⟨a', us, e1, t', qs⟩ := q
      cases e1
      have e2 := I.tuple_inj t.sq t'.sq
      subst e2
      cases n with
      | zero => unfold eqC at h; cases h
      | succ n =>
        unfold eqC at h
        cases hc : eqCs ds n es with
        | none => rw [hc] at h; cases h
        | some c =>
          rw [hc] at h
          cases h
          have := eqCs_same I ds n es c vs hc rs qs
          rw [this, rs.length, qs.length]
          simp
    | lst es =>
      exfalso
      unfold Rep at q
      obtain ⟨a', us, e1, t', qs⟩ := q
      cases e1
      obtain ⟨i1, _, p1, _⟩ := I.tuple t.sq
      obtain ⟨i2, _, p2, _⟩ := I.list t'.sq
      obtain ⟨o1, e1, c1, _⟩ := p1
      obtain ⟨o2, n2, e2, c2, _⟩ := p2
      rw [e1] at e2
      cases e2
      rw [c1] at c2
      exact absurd c2 (by simp)
    | str _ => unfold Rep at q; obtain ⟨q, _⟩ := q; cases q
    | ref _ => unfold eqC at h; cases h
    | _ => unfold Rep at q; cases q
  | .lst ds, n, e, b, x, h, r, q => by
    unfold Rep at r
    obtain ⟨a, vs, rfl, t, rs⟩ := r
    cases e with
    | lst es =>
      unfold Rep at q
      obtain ⟨a', us, e1, t', qs⟩ := q
      cases e1
      have e2 := I.list_inj t.sq t'.sq
      subst e2
      cases n with
      | zero => unfold eqC at h; cases h
      | succ n =>
        unfold eqC at h
        rw [if_pos (by rw [rs.length, qs.length])] at h
        exact eqCs_same I ds n es b vs h rs qs
    | tup es =>
      exfalso
      unfold Rep at q
      obtain ⟨a', us, e1, t', qs⟩ := q
      cases e1
      obtain ⟨i1, _, p1, _⟩ := I.tuple t'.sq
      obtain ⟨i2, _, p2, _⟩ := I.list t.sq
      obtain ⟨o1, e1, c1, _⟩ := p1
      obtain ⟨o2, n2, e2, c2, _⟩ := p2
      rw [e1] at e2
      cases e2
      rw [c1] at c2
      exact absurd c2 (by simp)
    | str _ => unfold Rep at q; obtain ⟨q, _⟩ := q; cases q
    | ref _ => unfold eqC at h; cases h
    | _ => unfold Rep at q; cases q
  | .ref a, n, e, b, x, h, r, q => by unfold eqC at h; cases h
  | .ty a, n, e, b, x, h, r, q => by unfold eqC at h; cases h
theorem eqCs_same (I : Inv X pins σ H s) : ∀ (ds : List D) (n : Nat) (es : List D) (b : Bool) (xs : List V), eqCs ds n es = some b → Reps X.K M H ds xs → Reps X.K M H es xs → b = true
  | [], n, es, b, xs, h, r, q => by unfold eqCs at h; cases h; rfl
  | d :: ds, n, [], b, xs, h, r, q => by unfold eqCs at h; cases h; rfl
  | d :: ds, n, e :: es, b, xs, h, r, q => by
    obtain ⟨v, vr, rfl, r1, r2⟩ := Reps.inv r
    obtain ⟨u, ur, e1, q1, q2⟩ := Reps.inv q
    cases e1
    unfold eqCs at h
    cases h1 : eqC d n e with
    | none => rw [h1] at h; cases h
    | some c =>
      rw [h1] at h
      cases h2 : eqCs ds n es with
      | none => rw [h2] at h; cases h
      | some c' =>
        rw [h2] at h
        cases h
        rw [eqC_same I d n e c v h1 r1 q1, eqCs_same I ds n es c' vr h2 r2 q2]
        rfl
end
/-- how two lists of data compare place by place -/
theorem eqCs_get : ∀ {ds : List D} {n : Nat} {es : List D} {b : Bool}, eqCs ds n es = some b → ∃ f : Nat → Bool, (∀ j d e, ds[j]? = some d → es[j]? = some e → eqC d n e = some (f j)) ∧ b = (List.range (min ds.length es.length)).all f
  | [], n, es, b, h => ⟨fun _ => true, fun j d e h1 _ => by simp at h1, by unfold eqCs at h; cases h; simp⟩
  | d :: ds, n, [], b, h => ⟨fun _ => true, fun j d e _ h2 => by simp at h2, by unfold eqCs at h; cases h; simp⟩
  | d :: ds, n, e :: es, b, h => by
    unfold eqCs at h
    cases h1 : eqC d n e with
    | none => rw [h1] at h; cases h
    | some c =>
      rw [h1] at h
      cases h2 : eqCs ds n es with
      | none => rw [h2] at h; cases h
      | some c' =>
        rw [h2] at h
        obtain ⟨f, hf, hb⟩ := eqCs_get h2
        refine ⟨fun j => match j with | 0 => c | j + 1 => f j, fun j x y q1 q2 => ?_, ?_⟩
        · cases j with
          | zero => simp at q1 q2; subst q1; subst q2; exact h1
          | succ j => exact hf j x y (by simpa using q1) (by simpa using q2)
        · have e0 : b = (c && c') := by
            have h3 : some (c && c') = some b := h
            exact (Option.some.inj h3).symm
          rw [e0, hb]
          have el : min (d :: ds).length (e :: es).length = min ds.length es.length + 1 := by simp only [List.length_cons]; omega
          rw [el, List.range_succ_eq_map, List.all_cons, List.all_map]
          rfl
theorem ne_ref_vals {a b : Addr} (h : V.ref a ≠ V.ref b) : a ≠ b := fun e => h (by rw [e])
theorem eq_at (I : Inv X pins σ H s) : ∀ (n : Nat) (d e : D) (b : Bool) (x y : V) (v u : Value) (A : Around), eqC d n e = some b → Rep X.K M H d x → Rep X.K M H e y → RelV x v → RelV y u → A.units + n + 1 < cLine → SeqAt.EqAt A s v u b := by
  intro n d e b x y v u A h r q rv ru hu
  have hu' : A.units < cLine := by omega
  cases d with
  | non =>
    obtain rfl := rep_non.mp r
    cases rv
    cases e <;> simp [eqC] at h <;> subst h
    · obtain rfl := rep_non.mp q; cases ru; exact SeqAt.EqAt.same _
    · obtain rfl := rep_bl.mp q; cases ru; exact SeqAt.EqAt.none_bool _
    · obtain rfl := rep_int.mp q; obtain ⟨t, rfl⟩ := ru; exact SeqAt.EqAt.none_int _ _
    · obtain ⟨rfl, _⟩ := rep_str.mp q; obtain ⟨t, rfl⟩ := ru; exact SeqAt.EqAt.none_str _ _
    · obtain ⟨a, vs, rfl, t, _⟩ := rep_tup.mp q; cases ru; obtain ⟨i, _, p, _⟩ := I.tuple t.sq; exact SeqAt.EqAt.none_tuple p hu'
    · obtain ⟨a, vs, rfl, t, _⟩ := rep_lst.mp q; cases ru; obtain ⟨i, _, p, _⟩ := I.list t.sq; exact SeqAt.EqAt.none_list p.isList hu'
  | bl c =>
    obtain rfl := rep_bl.mp r
    cases rv
    cases e <;> simp [eqC] at h <;> subst h
    · obtain rfl := rep_non.mp q; cases ru; exact SeqAt.EqAt.bool_none _
    · obtain rfl := rep_bl.mp q; cases ru; exact SeqAt.EqAt.bool_bool _ _
    · obtain rfl := rep_int.mp q; obtain ⟨t, rfl⟩ := ru; exact SeqAt.EqAt.bool_int _ _ _
    · obtain ⟨rfl, _⟩ := rep_str.mp q; obtain ⟨t, rfl⟩ := ru; exact SeqAt.EqAt.bool_str _ _ _
    · obtain ⟨a, vs, rfl, t, _⟩ := rep_tup.mp q; cases ru; obtain ⟨i, _, p, _⟩ := I.tuple t.sq; exact SeqAt.EqAt.bool_tuple _ p hu'
    · obtain ⟨a, vs, rfl, t, _⟩ := rep_lst.mp q; cases ru; obtain ⟨i, _, p, _⟩ := I.list t.sq; exact SeqAt.EqAt.bool_list _ p.isList hu'
  | int c =>
    obtain rfl := rep_int.mp r
    obtain ⟨t0, rfl⟩ := rv
    cases e <;> simp [eqC] at h <;> subst h
    · obtain rfl := rep_non.mp q; cases ru; exact SeqAt.EqAt.int_none _ _
    · obtain rfl := rep_bl.mp q; cases ru; exact SeqAt.EqAt.int_bool _ _ _
    · obtain rfl := rep_int.mp q; obtain ⟨t, rfl⟩ := ru; exact SeqAt.EqAt.int_int _ _ _ _
    · obtain ⟨rfl, _⟩ := rep_str.mp q; obtain ⟨t, rfl⟩ := ru; exact SeqAt.EqAt.int_str _ _ _ _
    · obtain ⟨a, vs, rfl, t, _⟩ := rep_tup.mp q; cases ru; obtain ⟨i, _, p, _⟩ := I.tuple t.sq; exact SeqAt.EqAt.int_tuple _ _ p hu'
    · obtain ⟨a, vs, rfl, t, _⟩ := rep_lst.mp q; cases ru; obtain ⟨i, _, p, _⟩ := I.list t.sq; exact SeqAt.EqAt.int_list _ _ p.isList hu'
  | str c =>
    obtain ⟨rfl, _⟩ := rep_str.mp r
    obtain ⟨t0, rfl⟩ := rv
    cases e <;> simp [eqC] at h <;> subst h
    · obtain rfl := rep_non.mp q; cases ru; exact SeqAt.EqAt.str_none _ _
    · obtain rfl := rep_bl.mp q; cases ru; exact SeqAt.EqAt.str_bool _ _ _
    · obtain rfl := rep_int.mp q; obtain ⟨t, rfl⟩ := ru; exact SeqAt.EqAt.str_int _ _ _ _
    · rename_i c'
      obtain ⟨rfl, _⟩ := rep_str.mp q; obtain ⟨t, rfl⟩ := ru
      have e1 : (c == c') = ((⟨c.toArray⟩ : Str) == ⟨c'.toArray⟩) := by
        rw [Bool.eq_iff_iff]
        simp
      rw [e1]
      exact SeqAt.EqAt.str_str _ _ _ _
    · obtain ⟨a, vs, rfl, t, _⟩ := rep_tup.mp q; cases ru; obtain ⟨i, _, p, _⟩ := I.tuple t.sq; exact SeqAt.EqAt.str_tuple _ _ p hu'
    · obtain ⟨a, vs, rfl, t, _⟩ := rep_lst.mp q; cases ru; obtain ⟨i, _, p, _⟩ := I.list t.sq; exact SeqAt.EqAt.str_list _ _ p.isList hu'
  | tup ds =>
    obtain ⟨a, vs, rfl, ta, rs⟩ := rep_tup.mp r
    cases rv
    obtain ⟨i, ri, p, _⟩ := I.tuple ta.sq
    cases e with
    | tup es =>
      obtain ⟨a', us, rfl, ta', qs⟩ := rep_tup.mp q
      cases ru
      obtain ⟨i', ri', p', _⟩ := I.tuple ta'.sq
      by_cases ha : a = a'
      · subst ha
        have : b = true := eqC_same I (.tup ds) n (.tup es) b (.ref a) h r q
        subst this
        exact SeqAt.EqAt.same _
      · cases n with
        | zero => unfold eqC at h; cases h
        | succ n =>
          unfold eqC at h
          cases hc : eqCs ds n es with
          | none => rw [hc] at h; cases h
          | some c =>
            rw [hc] at h
            cases h
            obtain ⟨f, hf, hb⟩ := eqCs_get hc
            have k := SeqAt.RcAt.tuples (A := A) (s := s) (e := f) p p' hu' (fun j h1 h2 => by
              have l1 : j < ds.length := by rw [rs.length, ri.length]; simpa using h1
              have l2 : j < es.length := by rw [qs.length, ri'.length]; simpa using h2
              obtain ⟨xv, g1, r1⟩ := rs.get (List.getElem?_eq_getElem l1)
              obtain ⟨yv, g2, q1⟩ := qs.get (List.getElem?_eq_getElem l2)
              obtain ⟨xu, k1, m1⟩ := ri.get g1
              obtain ⟨yu, k2, m2⟩ := ri'.get g2
              have z1 : i.toArray[j] = xu := by
                have := List.getElem?_eq_some_iff.mp k1
                obtain ⟨_, e⟩ := this
                simpa using e
              have z2 : i'.toArray[j] = yu := by
                have := List.getElem?_eq_some_iff.mp k2
                obtain ⟨_, e⟩ := this
                simpa using e
              rw [z1, z2]
              exact eq_at I n _ _ _ _ _ _ _ A.in1 (hf j _ _ (List.getElem?_eq_getElem l1) (List.getElem?_eq_getElem l2)) r1 q1 m1 m2 (by rw [in1_units]; omega))
            have z : ((List.range (min i.toArray.size i'.toArray.size)).all f && i.toArray.size == i'.toArray.size) = (c && ds.length == es.length) := by
              rw [hb]
              simp only [List.size_toArray]
              rw [← ri.length, ← ri'.length, ← rs.length, ← qs.length]
            rw [z] at k
            exact SeqAt.EqAt.of_refs ha k
    | lst es =>
      simp [eqC] at h
      subst h
      obtain ⟨a', us, rfl, ta', qs⟩ := rep_lst.mp q
      cases ru
      obtain ⟨i', ri', p', _⟩ := I.list ta'.sq
      exact SeqAt.EqAt.tuple_list p p'.isList hu'
    | non => simp [eqC] at h; subst h; obtain rfl := rep_non.mp q; cases ru; exact SeqAt.EqAt.tuple_none p hu'
    | bl _ => simp [eqC] at h; subst h; obtain rfl := rep_bl.mp q; cases ru; exact SeqAt.EqAt.tuple_bool _ p hu'
    | int _ => simp [eqC] at h; subst h; obtain rfl := rep_int.mp q; obtain ⟨t, rfl⟩ := ru; exact SeqAt.EqAt.tuple_int _ _ p hu'
    | str _ => simp [eqC] at h; subst h; obtain ⟨rfl, _⟩ := rep_str.mp q; obtain ⟨t, rfl⟩ := ru; exact SeqAt.EqAt.tuple_str _ _ p hu'
    | ref _ => simp [eqC] at h
    | ty _ => simp [eqC] at h
  | lst ds =>
    obtain ⟨a, vs, rfl, ta, rs⟩ := rep_lst.mp r
    cases rv
    obtain ⟨i, ri, p, _⟩ := I.list ta.sq
    cases e with
    | lst es =>
      obtain ⟨a', us, rfl, ta', qs⟩ := rep_lst.mp q
      cases ru
      obtain ⟨i', ri', p', _⟩ := I.list ta'.sq
      by_cases ha : a = a'
      · subst ha
        have : b = true := eqC_same I (.lst ds) n (.lst es) b (.ref a) h r q
        subst this
        exact SeqAt.EqAt.same _
      · cases n with
        | zero => unfold eqC at h; cases h
        | succ n =>
          unfold eqC at h
          by_cases hl : ds.length = es.length
          · rw [if_pos hl] at h
            obtain ⟨f, hf, hb⟩ := eqCs_get h
            have hsz : i.toArray.size = i'.toArray.size := by
              simp only [List.size_toArray]
              rw [← ri.length, ← ri'.length, ← rs.length, ← qs.length]
              exact hl
            have k := SeqAt.RcAt.lists (A := A) (s := s) (e := f) p.isList p'.isList hsz hu' (fun j h1 h2 => by
              have l1 : j < ds.length := by rw [rs.length, ri.length]; simpa using h1
              have l2 : j < es.length := by rw [qs.length, ri'.length]; simpa using h2
              obtain ⟨xv, g1, r1⟩ := rs.get (List.getElem?_eq_getElem l1)
              obtain ⟨yv, g2, q1⟩ := qs.get (List.getElem?_eq_getElem l2)
              obtain ⟨xu, k1, m1⟩ := ri.get g1
              obtain ⟨yu, k2, m2⟩ := ri'.get g2
              have z1 : i.toArray[j] = xu := by
                have := List.getElem?_eq_some_iff.mp k1
                obtain ⟨_, e⟩ := this
                simpa using e
              have z2 : i'.toArray[j] = yu := by
                have := List.getElem?_eq_some_iff.mp k2
                obtain ⟨_, e⟩ := this
                simpa using e
              rw [z1, z2]
              exact eq_at I n _ _ _ _ _ _ _ A.in1 (hf j _ _ (List.getElem?_eq_getElem l1) (List.getElem?_eq_getElem l2)) r1 q1 m1 m2 (by rw [in1_units]; omega))
            have z : ((List.range i.toArray.size).all f) = b := by
              rw [hb]
              simp only [List.size_toArray]
              rw [← ri.length, ← rs.length, hl, Nat.min_self]
            rw [z] at k
            exact SeqAt.EqAt.of_refs ha k
          · rw [if_neg hl] at h
            cases h
            exact SeqAt.EqAt.of_refs ha (SeqAt.RcAt.lists_lengths p.isList p'.isList (by
              simp only [List.size_toArray, bne_iff_ne, ne_eq]
              rw [← ri.length, ← ri'.length, ← rs.length, ← qs.length]
              exact hl) hu')
    | tup es =>
      simp [eqC] at h
      subst h
      obtain ⟨a', us, rfl, ta', qs⟩ := rep_tup.mp q
      cases ru
      obtain ⟨i', ri', p', _⟩ := I.tuple ta'.sq
      exact SeqAt.EqAt.list_tuple p.isList p' hu'
    | non => simp [eqC] at h; subst h; obtain rfl := rep_non.mp q; cases ru; exact SeqAt.EqAt.list_none p.isList hu'
    | bl _ => simp [eqC] at h; subst h; obtain rfl := rep_bl.mp q; cases ru; exact SeqAt.EqAt.list_bool _ p.isList hu'
    | int _ => simp [eqC] at h; subst h; obtain rfl := rep_int.mp q; obtain ⟨t, rfl⟩ := ru; exact SeqAt.EqAt.list_int _ _ p.isList hu'
    | str _ => simp [eqC] at h; subst h; obtain ⟨rfl, _⟩ := rep_str.mp q; obtain ⟨t, rfl⟩ := ru; exact SeqAt.EqAt.list_str _ _ p.isList hu'
    | ref _ => simp [eqC] at h
    | ty _ => simp [eqC] at h
  | ref _ => simp [eqC] at h
  | ty _ => simp [eqC] at h
termination_by n => n
end
end DL

set_option Elab.async false
set_option linter.all false
set_option maxRecDepth 100000
/-! DL3: the judgements over data. -/
namespace DL
open PySem L2

/-! ### readings over data -/
abbrev QD := D → Mm → Prop
abbrev TD := Sg → Mm → QD → Prop
abbrev TTd := Sg → Mm → (Bool → Mm → Prop) → Prop
abbrev TAd := Sg → Mm → (List D → Mm → Prop) → Prop
structure Ed where
  nx : Sg → Mm → Prop
  rt : QD
  bk : Sg → Mm → Prop
  ct : Sg → Mm → Prop
abbrev TSd := Ed → Sg → Mm → Prop
abbrev TGd := D → Sg → Mm → (Sg → Mm → Prop) → Prop
section
variable (K : PySem.W.Frag) (J : Jc)
def lE (t : TD) : TE := fun σ H Q => ∃ σd M Φ, RepS K J M H σd σ ∧ RepM K M H ∧ t σd M Φ ∧ ∀ d M' v H', Ev M H M' H' → RepM K M' H' → Rep K M' H' d v → Φ d M' → Q v H'
def lT (t : TTd) : TT := fun σ H Q => ∃ σd M Φ, RepS K J M H σd σ ∧ RepM K M H ∧ t σd M Φ ∧ ∀ b M' H', Ev M H M' H' → RepM K M' H' → Φ b M' → Q b H'
def lA (t : TAd) : TA := fun σ H Q => ∃ σd M Φ, RepS K J M H σd σ ∧ RepM K M H ∧ t σd M Φ ∧ ∀ ds M' vs H', Ev M H M' H' → RepM K M' H' → Reps K M' H' ds vs → Φ ds M' → Q vs H'
def lS (t : TSd) : TS := fun D σ H => ∃ σd M Δ, RepS K J M H σd σ ∧ RepM K M H ∧ t Δ σd M ∧
  (∀ σd' M' σ' H', Ev M H M' H' → RepS K J M' H' σd' σ' → RepM K M' H' → Δ.nx σd' M' → D.nx σ' H') ∧
  (∀ d M' v H', Ev M H M' H' → RepM K M' H' → Rep K M' H' d v → Δ.rt d M' → D.rt v H') ∧
  (∀ σd' M' σ' H', Ev M H M' H' → RepS K J M' H' σd' σ' → RepM K M' H' → Δ.bk σd' M' → D.bk σ' H') ∧
  (∀ σd' M' σ' H', Ev M H M' H' → RepS K J M' H' σd' σ' → RepM K M' H' → Δ.ct σd' M' → D.ct σ' H')
def lG (t : TGd) : TG := fun v σ H Q => ∃ d σd M Φ, RepS K J M H σd σ ∧ RepM K M H ∧ Rep K M H d v ∧ t d σd M Φ ∧ ∀ σd' M' σ' H', Ev M H M' H' → RepS K J M' H' σd' σ' → RepM K M' H' → Φ σd' M' → Q σ' H'
end
abbrev DE (J : Jc) (X : Cx) (e : Expr) (t : TD) : Prop := PE X e (lE X.K J t)
abbrev DT (J : Jc) (X : Cx) (e : Expr) (t : TTd) : Prop := PT X e (lT X.K J t)
abbrev DW (J : Jc) (X : Cx) (e : Expr) (t : TTd) : Prop := PW X e (lT X.K J t)
abbrev DA (J : Jc) (X : Cx) (es : List Expr) (t : TAd) : Prop := PA X es (lA X.K J t)
abbrev DS (J : Jc) (X : Cx) (st : Stmt) (t : TSd) : Prop := PS X st (lS X.K J t)
abbrev DSs (J : Jc) (X : Cx) (st : List Stmt) (t : TSd) : Prop := PSs X st (lS X.K J t)
abbrev DG (J : Jc) (X : Cx) (tg : Expr) (t : TGd) : Prop := PG X tg (lG X.K J t)

section
variable {X : Cx} {J : Jc}
theorem PE.imp {e : Expr} {t t' : TE} (h : PE X e t) (i : ∀ σ H Q, t' σ H Q → t σ H Q) : PE X e t' := ⟨fun pins s σ H Q I q => h.run pins s σ H Q I (i σ H Q q)⟩
theorem PT.imp {e : Expr} {t t' : TT} (h : PT X e t) (i : ∀ σ H Q, t' σ H Q → t σ H Q) : PT X e t' := ⟨fun pins s σ H Q I q => h.run pins s σ H Q I (i σ H Q q)⟩
theorem PW.imp {e : Expr} {t t' : TT} (h : PW X e t) (i : ∀ σ H Q, t' σ H Q → t σ H Q) : PW X e t' := ⟨fun wh pins s σ H Q I q => h.run wh pins s σ H Q I (i σ H Q q)⟩
theorem PA.imp {e : List Expr} {t t' : TA} (h : PA X e t) (i : ∀ σ H Q, t' σ H Q → t σ H Q) : PA X e t' := ⟨fun p pins s σ H Q I q => h.run p pins s σ H Q I (i σ H Q q)⟩
theorem PS.imp {e : Stmt} {t t' : TS} (h : PS X e t) (i : ∀ D σ H, t' D σ H → t D σ H) : PS X e t' := ⟨fun pins s σ H D I q => h.run pins s σ H D I (i D σ H q)⟩
theorem PSs.imp {e : List Stmt} {t t' : TS} (h : PSs X e t) (i : ∀ D σ H, t' D σ H → t D σ H) : PSs X e t' := ⟨fun pins s σ H D I q => h.run pins s σ H D I (i D σ H q)⟩
theorem PG.imp {e : Expr} {t t' : TG} (h : PG X e t) (i : ∀ v σ H Q, t' v σ H Q → t v σ H Q) : PG X e t' := ⟨fun pins s σ H v u Q I r q => h.run pins s σ H v u Q I r (i v σ H Q q)⟩

/-! ### what is read once: mutable lists by their items -/
abbrev M0 : Mm := fun _ => none
def vw (M : Mm) : D → D
  | .ref p => match M p with
    | some (.lst ds) => .lst ds
    | some (.tupX ds) => .tup ds
    | _ => .ref p
  | d => d
@[simp] theorem vw_non {M : Mm} : vw M .non = .non := rfl
@[simp] theorem vw_bl {M : Mm} {b : Bool} : vw M (.bl b) = .bl b := rfl
@[simp] theorem vw_int {M : Mm} {i : Int} : vw M (.int i) = .int i := rfl
@[simp] theorem vw_str {M : Mm} {x : List Nat} : vw M (.str x) = .str x := rfl
@[simp] theorem vw_tup {M : Mm} {ds : List D} : vw M (.tup ds) = .tup ds := rfl
@[simp] theorem vw_lst {M : Mm} {ds : List D} : vw M (.lst ds) = .lst ds := rfl
@[simp] theorem vw_ty {M : Mm} {n : String} : vw M (.ty n) = .ty n := rfl
theorem vw_refE (M : Mm) (p : Addr) : vw M (.ref p) = match M p with
    | some (.lst ds) => .lst ds
    | some (.tupX ds) => .tup ds
    | _ => .ref p := rfl
theorem vw_ref {M : Mm} {p : Addr} {ds : List D} (h : M p = some (.lst ds)) : vw M (.ref p) = .lst ds := by rw [vw_refE, h]
theorem vw_refX {M : Mm} {p : Addr} {ds : List D} (h : M p = some (.tupX ds)) : vw M (.ref p) = .tup ds := by rw [vw_refE, h]
abbrev Rep0 (K : PySem.W.Frag) (H : Hp) : D → V → Prop := Rep K M0 H
theorem Rep.all {K : PySem.W.Frag} {M : Mm} {H : Hp} {d : D} {v : V} (r : Rep K M H d v) : Rep0 K H d v := Rep.less (fun _ _ => .inl rfl) _ _ r
theorem Rep.vw {K : PySem.W.Frag} {M : Mm} {H : Hp} {d : D} {v : V} (rm : RepM K M H) (r : Rep K M H d v) : Rep0 K H (vw M d) v := by
  cases d with
  | ref p =>
    rw [vw_refE]
    cases e : M p with
    | none => exact r.all
    | some o =>
      cases o with
      | lst ds =>
        obtain rfl := rep_ref.mp r
        obtain ⟨vs, h1, h2⟩ := rm p _ e
        exact rep_lst.mpr ⟨p, vs, rfl, .inl ⟨.inl rfl, .inl h1⟩, h2.less fun _ _ => .inl rfl⟩
      | dic _ => exact r.all
      | ins _ _ => exact r.all
      | hid => exact r.all
      | dicL _ => exact r.all
      | gen _ _ => exact r.all
      | genL _ _ => exact r.all
      | tupX ds =>
        obtain rfl := rep_ref.mp r
        obtain ⟨od, vs, h1, _, h2⟩ := rm p _ e
        exact rep_tup.mpr ⟨p, vs, rfl, .inl ⟨.inl rfl, .inr ⟨od, h1⟩⟩, h2.less fun _ _ => .inl rfl⟩
  | _ => exact r.all

/-- what is read of a value: of a list its items -/
def VR (K : PySem.W.Frag) (M : Mm) (H : Hp) (d : D) (v : V) : Prop := match d with
  | .lst ds => ∃ a vs, v = .ref a ∧ SqL K H a vs ∧ Reps K M H ds vs
  | d => Rep K M H d v
theorem vr_lst {K : PySem.W.Frag} {M : Mm} {H : Hp} {ds : List D} {v : V} : VR K M H (.lst ds) v ↔ ∃ a vs, v = .ref a ∧ SqL K H a vs ∧ Reps K M H ds vs := Iff.rfl
section
variable {K : PySem.W.Frag} {M : Mm} {H : Hp} {v : V}
theorem vr_non (h : VR K M H .non v) : v = .non := rep_non.mp (show Rep K M H .non v from h)
theorem vr_int {i : Int} (h : VR K M H (.int i) v) : v = .int i := rep_int.mp (show Rep K M H (.int i) v from h)
theorem vr_bl {i : Bool} (h : VR K M H (.bl i) v) : v = .bl i := rep_bl.mp (show Rep K M H (.bl i) v from h)
theorem vr_ref {i : Addr} (h : VR K M H (.ref i) v) : v = .ref i := rep_ref.mp (show Rep K M H (.ref i) v from h)
theorem vr_ty {i : String} (h : VR K M H (.ty i) v) : v = .ty i := rep_ty.mp (show Rep K M H (.ty i) v from h)
theorem vr_str {x : List Nat} (h : VR K M H (.str x) v) : v = .str ⟨x.toArray⟩ ∧ x.length ≤ sizeLine := rep_str.mp (show Rep K M H (.str x) v from h)
theorem vr_tup {ds : List D} (h : VR K M H (.tup ds) v) : Rep K M H (.tup ds) v := h
end
theorem Rep.vr {K : PySem.W.Frag} {M : Mm} {H : Hp} {d : D} {v : V} (rm : RepM K M H) (r : Rep K M H d v) : VR K M H (DL.vw M d) v := by
  cases d with
  | ref p =>
    rw [vw_refE]
    cases e : M p with
    | none => exact r
    | some o =>
      cases o with
      | lst ds =>
        obtain rfl := rep_ref.mp r
        obtain ⟨vs, h1, h2⟩ := rm p _ e
        exact ⟨p, vs, rfl, SqL.of h1, h2⟩
      | dic _ => exact r
      | ins _ _ => exact r
      | hid => exact r
      | dicL _ => exact r
      | gen _ _ => exact r
      | genL _ _ => exact r
      | tupX ds =>
        obtain rfl := rep_ref.mp r
        obtain ⟨od, vs, h1, _, h2⟩ := rm p _ e
        exact rep_tup.mpr ⟨p, vs, rfl, .inl ⟨.inr ⟨ds, e⟩, .inr ⟨od, h1⟩⟩, h2⟩
  | lst ds =>
    obtain ⟨a, vs, e, t, q⟩ := rep_lst.mp r
    exact ⟨a, vs, e, t.sq, q⟩
  | _ => exact r

/-! ### names, constants -/
@[simp] def tdVar (i : Nat) : TD := fun σ M Q => ∃ d, σ[i]? = some (some d) ∧ Q d M
@[simp] def tdC (d : D) : TD := fun _ M Q => Q d M
theorem de_var {i : Nat} {x : Str} {pos : Pos} (hN : X.N[i]? = some x := by rfl) (hv : Vis X.env.scope x := by first | exact Or.inl rfl | exact Or.inr (Or.inl rfl) | exact Or.inr (Or.inr rfl)) (hd : (x == ("__debug__" : Str)) = false := by decide)
    (hcd : (x == ("__classdict__" : Str)) = false := by decide) : DE J X (.Name x pos) (tdVar i) := by
  refine PE.imp (pe_var hN hv hd hcd) fun σ H Q ⟨σd, M, Φ, rs, rm, ⟨d, e, q⟩, k⟩ => ?_
  obtain ⟨v, e1, r⟩ := rs.2 i d e
  exact ⟨v, e1, k d M v H .refl rm r q⟩
theorem de_c {e : Expr} {v : V} {d : D} (h : PE X e (tC v)) (r : ∀ M H, RepM X.K M H → Rep X.K M H d v) : DE J X e (tdC d) :=
  PE.imp h fun σ H Q ⟨σd, M, Φ, rs, rm, q, k⟩ => k d M v H .refl rm (r M H rm) q
theorem de_int {i j pos} : DE J X (.Constant (.int i) j pos) (tdC (.int i)) := de_c pe_int fun _ _ _ => rep_int.mpr rfl
theorem de_bl {b j pos} : DE J X (.Constant (.bool b) j pos) (tdC (.bl b)) := de_c pe_bl fun _ _ _ => rep_bl.mpr rfl
theorem de_non {j pos} : DE J X (.Constant .none j pos) (tdC .non) := de_c pe_non fun _ _ _ => rep_non.mpr rfl
/-- the codes of a written text -/
def q (s : String) : List Nat := s.toList.map Char.toNat
theorem q_of (s : String) : Str.ofString s = ⟨(q s).toArray⟩ := Str.ofString_eq_toList s
theorem de_str {s : String} {j pos} (h : (q s).length ≤ sizeLine := by decide) : DE J X (.Constant (.str (Str.ofString s)) j pos) (tdC (.str (q s))) :=
  de_c pe_str fun _ _ _ => rep_str.mpr ⟨by rw [q_of], h⟩
/-- a module's constant: an int, a text -/
theorem de_globI {x : Str} {i : Int} {t : Tok} {pos : Pos} (hg : Gl X x) (hm : X.mg x = some (.int i t)) (hd : (x == ("__debug__" : Str)) = false := by decide) : DE J X (.Name x pos) (tdC (.int i)) := de_c (pe_glob (v := .int i) hg hm ⟨t, rfl⟩ hd) fun _ _ _ => rep_int.mpr rfl
theorem de_globS {x : Str} {s : String} {t : Tok} {pos : Pos} (hg : Gl X x) (hm : X.mg x = some (.str (Str.ofString s) t)) (h : (q s).length ≤ sizeLine := by decide) (hd : (x == ("__debug__" : Str)) = false := by decide) : DE J X (.Name x pos) (tdC (.str (q s))) :=
  de_c (pe_glob (v := .str (Str.ofString s)) hg hm ⟨t, rfl⟩ hd) fun _ _ _ => rep_str.mpr ⟨by rw [q_of], h⟩
theorem de_glob {x : Str} {d : D} {v : V} {u : Value} {pos : Pos} (hg : Gl X x) (hm : X.mg x = some u) (r : RelV v u) (rp : ∀ M H, RepM X.K M H → Rep X.K M H d v) (hd : (x == ("__debug__" : Str)) = false := by decide) : DE J X (.Name x pos) (tdC d) :=
  de_c (pe_glob hg hm r hd) rp
/-- a built-in class as a value -/
theorem de_bltn {x : Str} {n : String} {pos : Pos} (hg : Gl X x) (hm : X.mg x = none) (hv : bootBuiltins x = some (.type n)) (hn : x ≠ "__name__" := by decide) (hd : (x == ("__debug__" : Str)) = false := by decide) : DE J X (.Name x pos) (tdC (.ty n)) :=
  de_c (pe_bltn (v := .ty n) hg hm hv rfl hn hd) fun _ _ _ => rep_ty.mpr rfl
/-- an own class (or def) as a value -/
theorem de_globR {x : Str} {a : Addr} {pos : Pos} (hg : Gl X x) (hm : X.mg x = some (.ref a)) (hd : (x == ("__debug__" : Str)) = false := by decide) : DE J X (.Name x pos) (tdC (.ref a)) :=
  de_c (pe_glob (v := .ref a) hg hm rfl hd) fun _ _ _ => rep_ref.mpr rfl

/-! ### operators -/
abbrev R2d := Mm → D → D → (D → Prop) → Prop
def lR (K : PySem.W.Frag) (r : R2d) : R2 := fun x y H Q => ∃ M a b Φ, RepM K M H ∧ Rep K M H a x ∧ Rep K M H b y ∧ r M a b Φ ∧ ∀ d v H', Ev M H M H' → RepM K M H' → Rep K M H' d v → Φ d → Q v H'
abbrev OpD (X : Cx) (f : Value → Value → Sem Value) (r : R2d) : Prop := OpR X f (lR X.K r)
@[simp] def tdOp (r : R2d) (ta tb : TD) : TD := fun σ M Q => ta σ M fun x M1 => tb σ M1 fun y M2 => r M2 x y fun z => Q z M2
variable {a b : Expr} {ta tb : TD} {pos : Pos}
theorem lR_of {K : PySem.W.Frag} {r : R2d} {σ : L2.St} {H : Hp} {Q : VK} (h : lE K J (tdOp r ta tb) σ H Q) : tOp (lR K r) (lE K J ta) (lE K J tb) σ H Q := by
  obtain ⟨σd, M, Φ, rs, rm, h, k⟩ := h
  refine ⟨σd, M, _, rs, rm, h, fun x M1 v H1 e1 rm1 r1 q1 => ?_⟩
  refine ⟨σd, M1, _, e1.slots rs, rm1, q1, fun y M2 u H2 e2 rm2 r2 q2 => ?_⟩
  exact ⟨M2, x, y, _, rm2, e2.rep _ _ r1, r2, q2, fun d v' H' e3 rm3 r3 q3 => k d M2 v' H' (e1.trans (e2.trans e3)) rm3 r3 q3⟩
theorem de_op {op : Operator} {r : R2d} (ho : OpD X (binaryOp op) r) (ha : DE J X a ta) (hb : DE J X b tb) : DE J X (.BinOp a op b pos) (tdOp r ta tb) := PE.imp (pe_op ho ha hb) fun _ _ _ h => lR_of h
theorem de_cmp {op : CmpOp} {r : R2d} (ho : OpD X (compareOp op) r) (ha : DE J X a ta) (hb : DE J X b tb) (hm : behindInMarks op b = false := by first | exact nomark _ | rfl) : DE J X (.Compare a [op] [b] pos) (tdOp r ta tb) := PE.imp (pe_cmpR ho ha hb hm) fun _ _ _ h => lR_of h
/-- a reading that gives a bool, as a test -/
@[simp] def tdTest (t : TD) : TTd := fun σ M Q => t σ M fun x M' => ∃ k, x = .bl k ∧ Q k M'
theorem lT_of {K : PySem.W.Frag} {t : TD} {σ : L2.St} {H : Hp} {Q : Bool → Hp → Prop} (h : lT K J (tdTest t) σ H Q) : tTest (lE K J t) σ H Q := by
  obtain ⟨σd, M, Φ, rs, rm, h, k⟩ := h
  refine ⟨σd, M, _, rs, rm, h, fun x M1 v H1 e1 rm1 r1 q1 => ?_⟩
  obtain ⟨c, rfl, q1⟩ := q1
  obtain rfl := rep_bl.mp r1
  exact ⟨c, rfl, k c M1 H1 e1 rm1 q1⟩
theorem dt_cmp {op : CmpOp} {r : R2d} (ho : OpD X (compareOp op) r) (ha : DE J X a ta) (hb : DE J X b tb) (hm : behindInMarks op b = false := by first | exact nomark _ | rfl) : DT J X (.Compare a [op] [b] pos) (tdTest (tdOp r ta tb)) := by
  refine PT.imp (pt_cmpR ho ha hb hm) fun σ H Q h => ?_
  obtain ⟨σd, M, Φ, rs, rm, h, k⟩ := h
  refine lR_of ⟨σd, M, _, rs, rm, h, fun x M1 v H1 e1 rm1 r1 q1 => ?_⟩
  obtain ⟨c, rfl, q1⟩ := q1
  obtain rfl := rep_bl.mp r1
  exact ⟨c, rfl, k c M1 H1 e1 rm1 q1⟩
@[simp] def tdChain (r r' : R2d) (ta tb tc : TD) : TD := fun σ M Q => ta σ M fun x M1 => tb σ M1 fun y M2 => r M2 x y fun z => ∃ k, z = .bl k ∧ if k = true then tc σ M2 fun w M3 => r' M3 y w fun z' => Q z' M3 else Q (.bl false) M2
variable {c : Expr} {tc : TD}
theorem de_chain {op op' : CmpOp} {r r' : R2d} (ho : OpD X (compareOp op) r) (ho' : OpD X (compareOp op') r') (ha : DE J X a ta) (hb : DE J X b tb) (hc : DE J X c tc) (hm : lastMarks [op, op'] [b, c] = false := by first | rfl | decide) : DE J X (.Compare a [op, op'] [b, c] pos) (tdChain r r' ta tb tc) := by
  refine PE.imp (pe_chain ho ho' ha hb hc hm) fun σ H Q h => ?_
  obtain ⟨σd, M, Φ, rs, rm, h, k⟩ := h
  refine ⟨σd, M, _, rs, rm, h, fun x M1 v H1 e1 rm1 r1 q1 => ?_⟩
  refine ⟨σd, M1, _, e1.slots rs, rm1, q1, fun y M2 u H2 e2 rm2 r2 q2 => ?_⟩
  refine ⟨M2, x, y, _, rm2, e2.rep _ _ r1, r2, q2, fun z w H3 e3 rm3 r3 q3 => ?_⟩
  obtain ⟨c, rfl, q3⟩ := q3
  obtain rfl := rep_bl.mp r3
  refine ⟨c, rfl, ?_⟩
  cases c with
  | true =>
    rw [if_pos rfl] at q3 ⊢
    refine ⟨σd, M2, _, e3.slots (e2.slots (e1.slots rs)), rm3, q3, fun w M4 wv H4 e4 rm4 r4 q4 => ?_⟩
    exact ⟨M4, y, w, _, rm4, (e3.trans e4).rep _ _ r2, r4, q4, fun d v' H' e5 rm5 r5 q5 => k d M4 v' H' (e1.trans (e2.trans (e3.trans (e4.trans e5)))) rm5 r5 q5⟩
  | false =>
    rw [if_neg Bool.false_ne_true] at q3 ⊢
    exact k _ M2 _ H3 (e1.trans (e2.trans e3)) rm3 (rep_bl.mpr rfl) q3
theorem dt_chain {op op' : CmpOp} {r r' : R2d} (ho : OpD X (compareOp op) r) (ho' : OpD X (compareOp op') r') (ha : DE J X a ta) (hb : DE J X b tb) (hc : DE J X c tc) (hm : lastMarks [op, op'] [b, c] = false := by first | rfl | decide) : DT J X (.Compare a [op, op'] [b, c] pos) (tdTest (tdChain r r' ta tb tc)) := by
  refine PT.imp (pt_chain ho ho' ha hb hc hm) fun σ H Q h => ?_
  obtain ⟨σd, M, Φ, rs, rm, h, k⟩ := h
  refine ⟨σd, M, _, rs, rm, h, fun x M1 v H1 e1 rm1 r1 q1 => ?_⟩
  refine ⟨σd, M1, _, e1.slots rs, rm1, q1, fun y M2 u H2 e2 rm2 r2 q2 => ?_⟩
  refine ⟨M2, x, y, _, rm2, e2.rep _ _ r1, r2, q2, fun z w H3 e3 rm3 r3 q3 => ?_⟩
  obtain ⟨c, rfl, q3⟩ := q3
  obtain rfl := rep_bl.mp r3
  refine ⟨c, rfl, ?_⟩
  cases c with
  | true =>
    rw [if_pos rfl] at q3 ⊢
    refine ⟨σd, M2, _, e3.slots (e2.slots (e1.slots rs)), rm3, q3, fun w M4 wv H4 e4 rm4 r4 q4 => ?_⟩
    refine ⟨M4, y, w, _, rm4, (e3.trans e4).rep _ _ r2, r4, q4, fun d v' H' e5 rm5 r5 q5 => ?_⟩
    obtain ⟨c, rfl, q5⟩ := q5
    obtain rfl := rep_bl.mp r5
    exact ⟨c, rfl, k _ M4 H' (e1.trans (e2.trans (e3.trans (e4.trans e5)))) rm5 q5⟩
  | false =>
    rw [if_neg Bool.false_ne_true] at q3 ⊢
    obtain ⟨c, e, q3⟩ := q3
    cases e
    exact ⟨_, rfl, k _ M2 H3 (e1.trans (e2.trans e3)) rm3 q3⟩
end
end DL

set_option Elab.async false
set_option linter.all false
set_option maxRecDepth 100000
/-! DL4: operators on data. -/
namespace DL
open PySem L2
section
variable {X : Cx}
/-- a new tuple, a new list -/
theorem EP.tup {pins : List (Addr × Obj)} {s : Shared} {σ : L2.St} {H : Hp} {Q : VK} {its : List Value} {vs : List V} (I : Inv X pins σ H s) (r : Vals vs its) (hz : vs.length ≤ sizeLine) (q : H s.heap.objs.size = none → Q (.ref s.heap.objs.size) (upd H s.heap.objs.size (.tup vs))) :
    EP X pins σ Q (.ref s.heap.objs.size) { s with heap := s.heap.push { cls := .type "tuple", data := .seq its.toArray } } :=
  ⟨.ref _, _, I.laid (t' := s.toks) (o := .tup vs) (fun b ob q => Heap.get?_push_of_some _ q) (Nat.le_refl _) ⟨hz, _, r, PyProof.Rows.IsTup.new _ _⟩, rfl, q (I.hok.fresh (Nat.le_refl _))⟩

/-! ### + -/
theorem add_any {pins : List (Addr × Obj)} {s : Shared} {σ : L2.St} {H : Hp} {Q : VK} {l b : Addr} {xs zs : List V} (I : Inv X pins σ H s) (hH : SqL X.K H l xs) (hB : SqL X.K H b zs) (hz : xs.length + zs.length ≤ sizeLine)
    (q : ∀ p, H p = none → Q (.ref p) (upd H p (.lst (xs ++ zs)))) : wpAny (model X.prog X.w) X.A (binaryOp .Add (.ref l) (.ref b)) (EP X pins σ Q) X.xe s := by
  obtain ⟨its, r, p1, _⟩ := I.list hH
  obtain ⟨its2, r2, p2, _⟩ := I.list hB
  obtain ⟨⟨cls, dd, data, sl⟩, n, ho, hc, _, hd⟩ := p1
  obtain ⟨⟨cls2, dd2, data2, sl2⟩, n2, ho2, hc2, _, hd2⟩ := p2
  simp only at hc hd hc2 hd2
  subst hc hd hc2 hd2
  have e : its.toArray ++ its2.toArray = (its ++ its2).toArray := by simp
  have hz' : its.length + its2.length ≤ sizeLine := by rw [← r.length, ← r2.length]; exact hz
  refine concat_meets ⟨_, ho, rfl⟩ ⟨_, ho2, rfl⟩ PySem.noFill_list_add PySem.seq_list_add PySem.F.slot_list_add PySem.F.entry_list_add (PySem.F.args_list_add_2 _ _) (PyProof.Rows.list_addW l b its.toArray its2.toArray n n2 dd dd2 sl sl2 (by simpa using hz')) ⟨ho, ho2, ?_⟩
  rw [e]
  exact ⟨.ref _, _, I.lnew (t' := s.toks) (r.append r2) (by rw [List.length_append]; omega), rfl, q _ I.fresh⟩
@[simp] def dAdd : R2d := fun M x y Q => match vw M x, vw M y with
  | .int i, .int j => Q (.int (i + j))
  | .int i, .bl b => Q (.int (i + PyProof.Rows.b2i b))
  | .bl b, .int j => Q (.int ((if b = true then (1 : Int) else 0) + j))
  | .str a, .str b => a.length + b.length ≤ sizeLine ∧ Q (.str (a ++ b))
  | .tup a, .tup b => a.length + b.length ≤ sizeLine ∧ Q (.tup (a ++ b))
  | .lst a, .lst b => a.length + b.length ≤ sizeLine ∧ Q (.lst (a ++ b))
  | _, _ => False
theorem op_dAdd : OpD X (binaryOp .Add) dAdd := by
  intro pins s σ H x y v u Q I rx ry h
  obtain ⟨M, a, b, Φ, rm, ra, rb, h, k⟩ := h
  have ra' := ra.vr rm
  have rb' := rb.vr rm
  unfold dAdd at h
  generalize vw M a = a' at ra' h
  generalize vw M b = b' at rb' h
  cases a' with
  | int i =>
    obtain rfl := vr_int ra'
    cases b' with
    | int j =>
      obtain rfl := vr_int rb'
      exact op_add pins s σ H _ _ v u Q I rx ry ⟨i, j, rfl, rfl, k _ _ H .refl rm (rep_int.mpr rfl) h⟩
    | bl c =>
      obtain rfl := vr_bl rb'
      exact op_add_ib pins s σ H _ _ v u Q I rx ry ⟨i, c, rfl, rfl, k _ _ H .refl rm (rep_int.mpr rfl) h⟩
    | _ => exact h.elim
  | bl i =>
    obtain rfl := vr_bl ra'
    cases b' with
    | int j =>
      obtain rfl := vr_int rb'
      cases rx
      obtain ⟨t, rfl⟩ := ry
      exact IntBool.add_bool_int ⟨.int _, H, I.tok _, ⟨_, rfl⟩, k _ _ H .refl rm (rep_int.mpr rfl) h⟩
    | _ => exact h.elim
  | str c =>
    obtain ⟨rfl, _⟩ := vr_str ra'
    cases b' with
    | str d =>
      obtain ⟨rfl, _⟩ := vr_str rb'
      obtain ⟨hz, h⟩ := h
      refine op_add_str pins s σ H _ _ v u Q I rx ry ⟨_, _, rfl, rfl, by simpa [Str.length] using hz, k _ _ H .refl rm (rep_str.mpr ⟨?_, by simpa using hz⟩) h⟩
      show V.str (Str.append _ _) = _
      simp [Str.append]
    | _ => exact h.elim
  | tup c =>
    have rc : Rep X.K M H (.tup c) x := ra'
    obtain ⟨p, vs, rfl, tp, r1⟩ := rep_tup.mp rc
    cases b' with
    | tup d =>
      have rd : Rep X.K M H (.tup d) y := rb'
      obtain ⟨p2, us, rfl, tp2, r2⟩ := rep_tup.mp rd
      obtain ⟨hz, h⟩ := h
      have l1 := r1.length
      have l2 := r2.length
      refine op_catA pins s σ H _ _ v u Q I rx ry ⟨p, p2, vs, us, rfl, rfl, tp.sq, tp2.sq, by omega, fun e => ?_, fun _ e => ?_, fun _ _ z hz' => ?_⟩
      · subst e
        have e' : c = [] := by cases c with | nil => rfl | cons _ _ => simp at l1
        subst e'
        exact k _ _ H .refl rm rd h
      · subst e
        have e' : d = [] := by cases d with | nil => rfl | cons _ _ => simp at l2
        subst e'
        rw [List.append_nil] at h
        exact k _ _ H .refl rm rc h
      · exact k _ _ _ (.new hz') (rm.new hz') (.tupNew rm hz' (r1.append r2)) h
    | _ => exact h.elim
  | lst c =>
    obtain ⟨p, vs, rfl, tp, r1⟩ := vr_lst.mp ra'
    cases b' with
    | lst d =>
      obtain ⟨p2, us, rfl, tp2, r2⟩ := vr_lst.mp rb'
      obtain ⟨hz, h⟩ := h
      cases rx
      cases ry
      exact add_any I tp tp2 (by rw [← r1.length, ← r2.length]; exact hz) fun z hz' => k _ _ _ (.new hz') (rm.new hz') (.lstNew rm hz' (r1.append r2)) h
    | _ => exact h.elim
  | _ => exact h.elim
/-! ### -, *, //, %, ** of ints -/
@[simp] def dInt (C : Int → Int → Prop) (g : Int → Int → Int) : R2d := fun _ x y Q => match x, y with
  | .int i, .int j => C i j ∧ Q (.int (g i j))
  | _, _ => False
theorem op_dInt {f : Value → Value → Sem Value} {C : Int → Int → Prop} {g : Int → Int → Int} (ho : OpR X f (rI C fun i j => .int (g i j))) : OpD X f (dInt C g) := by
  intro pins s σ H x y v u Q I rx ry h
  obtain ⟨M, a, b, Φ, rm, ra, rb, h, k⟩ := h
  unfold dInt at h
  cases a <;> cases b <;> first | exact h.elim | skip
  obtain rfl := rep_int.mp ra
  obtain rfl := rep_int.mp rb
  exact ho pins s σ H _ _ v u Q I rx ry ⟨_, _, rfl, rfl, h.1, k _ _ H .refl rm (rep_int.mpr rfl) h.2⟩
abbrev CT : Int → Int → Prop := fun _ _ => True
@[simp] def dSub : R2d := dInt CT fun i j => i - j
theorem op_dSub : OpD X (binaryOp .Sub) dSub := op_dInt (C := CT) fun pins s σ H x y v u Q I rx ry ⟨i, j, e1, e2, _, q⟩ => op_sub pins s σ H x y v u Q I rx ry ⟨i, j, e1, e2, q⟩
@[simp] def dFdiv : R2d := dInt CDiv fun i j => i / j
theorem op_dFdiv : OpD X (binaryOp .FloorDiv) dFdiv := op_dInt op_fdiv
@[simp] def dMod : R2d := dInt (fun _ j => 0 < j) fun i j => i % j
theorem op_dMod : OpD X (binaryOp .Mod) dMod := op_dInt op_mod
@[simp] def dPow : R2d := dInt CPow fun i j => i ^ j.toNat
theorem op_dPow : OpD X (binaryOp .Pow) dPow := op_dInt op_pow
@[simp] def dMul : R2d := fun M x y Q => match vw M x, vw M y with
  | .int i, .int j => CMul i j ∧ Q (.int (i * j))
  | .tup ds, .int k => ds ≠ [] ∧ 2 ≤ k ∧ k ≤ 1000 ∧ ds.length ≤ 1000 ∧ Q (.tup (List.replicate k.toNat ds).flatten)
  | .str z, .int k => z ≠ [] ∧ 2 ≤ k ∧ k ≤ 1000 ∧ z.length * k.toNat ≤ 60000 ∧ Q (.str (List.replicate k.toNat z).flatten)
  | _, _ => False
theorem Reps.reps {K : PySem.W.Frag} {M : Mm} {H : Hp} {ds : List D} {vs : List V} (r : Reps K M H ds vs) : ∀ n : Nat, Reps K M H (List.replicate n ds).flatten (List.replicate n vs).flatten
  | 0 => .nil
  | n + 1 => by
    rw [List.replicate_succ, List.replicate_succ, List.flatten_cons, List.flatten_cons]
    exact r.append (Reps.reps r n)
theorem foldl_str (a : List Nat) : ∀ (m : Nat) (acc : Array Nat), (List.replicate m a.toArray).foldl (fun x1 x2 => x1 ++ x2) acc = acc ++ (List.replicate m a).flatten.toArray
  | 0, acc => by simp
  | m + 1, acc => by
    rw [List.replicate_succ, List.foldl_cons, foldl_str a m, List.replicate_succ, List.flatten_cons]
    simp
theorem len_reps {α : Type} (z : List α) : ∀ n : Nat, (List.replicate n z).flatten.length = z.length * n
  | 0 => by simp
  | n + 1 => by rw [List.replicate_succ, List.flatten_cons, List.length_append, len_reps z n, Nat.mul_succ]; omega
theorem op_dMul : OpD X (binaryOp .Mult) dMul := by
  intro pins s σ H x y v u Q I rx ry h
  obtain ⟨M, a, b, Φ, rm, ra, rb, h, k⟩ := h
  have ra' := ra.vr rm
  have rb' := rb.vr rm
  unfold dMul at h
  generalize vw M a = a' at ra' h
  generalize vw M b = b' at rb' h
  cases a' with
  | int i =>
    obtain rfl := vr_int ra'
    cases b' with
    | int j =>
      obtain rfl := vr_int rb'
      exact op_mul pins s σ H _ _ v u Q I rx ry ⟨i, j, rfl, rfl, h.1, k _ _ H .refl rm (rep_int.mpr rfl) h.2⟩
    | _ => exact h.elim
  | tup c =>
    have rc : Rep X.K M H (.tup c) x := ra'
    obtain ⟨p, vs, rfl, tp, r1⟩ := rep_tup.mp rc
    cases b' with
    | int j =>
      obtain rfl := vr_int rb'
      obtain ⟨hne, h2, h3, hl, h⟩ := h
      have l1 := r1.length
      refine op_repT pins s σ H _ _ v u Q I rx ry ⟨p, j, vs, rfl, rfl, tp.sq, fun e => ?_, h2, h3, by omega, fun z hz' => ?_⟩
      · subst e
        cases c with
        | nil => exact hne rfl
        | cons _ _ => simp at l1
      · exact k _ _ _ (.new hz') (rm.new hz') (.tupNew rm hz' (r1.reps j.toNat)) h
    | _ => exact h.elim
  | str z =>
    obtain ⟨rfl, hz⟩ := vr_str ra'
    cases b' with
    | int j =>
      obtain rfl := vr_int rb'
      obtain ⟨hne, h2, h3, hl, h⟩ := h
      obtain ⟨t, rfl⟩ := rx
      obtain ⟨t', rfl⟩ := ry
      have hpos : 0 < z.length := List.length_pos_iff.mpr hne
      have hz0 : (⟨z.toArray⟩ : Str).length = z.length := by simp [Str.length]
      have hn1 : ¬ j < 1 := by omega
      have hcond : (j == 1 || (⟨z.toArray⟩ : Str).length == 0) = false := by
        rw [hz0, Bool.or_eq_false_iff]
        exact ⟨beq_eq_false_iff_ne.mpr (by omega), beq_eq_false_iff_ne.mpr (by omega)⟩
      refine PySem.P.mul_str ?_ (fun _ _ => ?_) (fun _ _ => ?_) ?_
      · rw [Bool.or_eq_false_iff]
        exact ⟨decide_eq_false (by omega), decide_eq_false (by omega)⟩
      · rw [hz0]
        have e1 : (9223372036854775807 : Int) / 1000 ≤ 9223372036854775807 / j := by
          rw [Int.le_ediv_iff_mul_le (by omega)]
          have e2 : (9223372036854775807 : Int) / 1000 * j ≤ (9223372036854775807 : Int) / 1000 * 1000 := Int.mul_le_mul_of_nonneg_left h3 (by decide)
          have e3 : (9223372036854775807 : Int) / 1000 * 1000 ≤ 9223372036854775807 := by decide
          omega
        have e4 : (z.length : Int) ≤ 60000 := by
          have e7 : z.length * 1 ≤ z.length * j.toNat := Nat.mul_le_mul_left _ (by omega)
          omega
        have e5 : (60000 : Int) ≤ 9223372036854775807 / 1000 := by decide
        have e6 : (2 : Int) ^ 63 - 1 = 9223372036854775807 := by decide
        rw [e6]
        omega
      · rw [hz0]
        exact decide_eq_false (by rw [sizeLine_eq]; omega)
      · rw [if_neg hn1, hcond]
        have e := foldl_str z j.toNat #[]
        rw [Array.empty_append] at e
        have e2 : (List.foldl (fun x1 x2 => x1 ++ x2) #[] (List.replicate j.toNat (⟨z.toArray⟩ : Str).cps)) = (List.replicate j.toNat z).flatten.toArray := e
        rw [e2]
        have hl2 : (List.replicate j.toNat z).flatten.length ≤ sizeLine := by rw [len_reps, sizeLine_eq]; omega
        refine ⟨?_, ⟨.str _, H, I.tok _, ⟨_, rfl⟩, k _ _ H .refl rm (rep_str.mpr ⟨rfl, hl2⟩) h⟩⟩
        show (_ : Nat) ≤ sizeLine
        simpa [Str.length] using hl2
    | _ => exact h.elim
  | _ => exact h.elim

end
section
variable {X : Cx} {pins : List (Addr × Obj)} {σ : L2.St} {H : Hp} {s : Shared} {M : Mm}
theorem rc_at (I : Inv X pins σ H s) : ∀ (n : Nat) (d e : D) (b : Bool) (x y : V) (v u : Value) (A : Around), eqC d n e = some b → Rep X.K M H d x → Rep X.K M H e y → RelV x v → RelV y u → A.units + n + 1 < cLine → SeqAt.RcAt A s v u b := by
  intro n d e b x y v u A h r q rv ru hu
  have hu' : A.units < cLine := by omega
  cases d with
  | non =>
    obtain rfl := rep_non.mp r
    cases rv
    cases e <;> simp [eqC] at h <;> subst h
    · obtain rfl := rep_non.mp q; cases ru; exact SeqAt.RcAt.none_none
    · obtain rfl := rep_bl.mp q; cases ru; exact SeqAt.RcAt.none_bool _
    · obtain rfl := rep_int.mp q; obtain ⟨t, rfl⟩ := ru; exact SeqAt.RcAt.none_int _ _
    · obtain ⟨rfl, _⟩ := rep_str.mp q; obtain ⟨t, rfl⟩ := ru; exact SeqAt.RcAt.none_str _ _
    · obtain ⟨a, vs, rfl, t, _⟩ := rep_tup.mp q; cases ru; obtain ⟨i, _, p, _⟩ := I.tuple t.sq; exact SeqAt.RcAt.none_tuple p hu'
    · obtain ⟨a, vs, rfl, t, _⟩ := rep_lst.mp q; cases ru; obtain ⟨i, _, p, _⟩ := I.list t.sq; exact SeqAt.RcAt.none_list p.isList hu'
  | bl c =>
    obtain rfl := rep_bl.mp r
    cases rv
    cases e <;> simp [eqC] at h <;> subst h
    · obtain rfl := rep_non.mp q; cases ru; exact SeqAt.RcAt.bool_none _
    · obtain rfl := rep_bl.mp q; cases ru; exact SeqAt.RcAt.bool_bool _ _
    · obtain rfl := rep_int.mp q; obtain ⟨t, rfl⟩ := ru; exact SeqAt.RcAt.bool_int _ _ _
    · obtain ⟨rfl, _⟩ := rep_str.mp q; obtain ⟨t, rfl⟩ := ru; exact SeqAt.RcAt.bool_str _ _ _
    · obtain ⟨a, vs, rfl, t, _⟩ := rep_tup.mp q; cases ru; obtain ⟨i, _, p, _⟩ := I.tuple t.sq; exact SeqAt.RcAt.bool_tuple _ p hu'
    · obtain ⟨a, vs, rfl, t, _⟩ := rep_lst.mp q; cases ru; obtain ⟨i, _, p, _⟩ := I.list t.sq; exact SeqAt.RcAt.bool_list _ p.isList hu'
  | int c =>
    obtain rfl := rep_int.mp r
    obtain ⟨t0, rfl⟩ := rv
    cases e <;> simp [eqC] at h <;> subst h
    · obtain rfl := rep_non.mp q; cases ru; exact SeqAt.RcAt.int_none _ _
    · obtain rfl := rep_bl.mp q; cases ru; exact SeqAt.RcAt.int_bool _ _ _
    · obtain rfl := rep_int.mp q; obtain ⟨t, rfl⟩ := ru; exact SeqAt.RcAt.int_int _ _ _ _
    · obtain ⟨rfl, _⟩ := rep_str.mp q; obtain ⟨t, rfl⟩ := ru; exact SeqAt.RcAt.int_str _ _ _ _
    · obtain ⟨a, vs, rfl, t, _⟩ := rep_tup.mp q; cases ru; obtain ⟨i, _, p, _⟩ := I.tuple t.sq; exact SeqAt.RcAt.int_tuple _ _ p hu'
    · obtain ⟨a, vs, rfl, t, _⟩ := rep_lst.mp q; cases ru; obtain ⟨i, _, p, _⟩ := I.list t.sq; exact SeqAt.RcAt.int_list _ _ p.isList hu'
  | str c =>
    obtain ⟨rfl, _⟩ := rep_str.mp r
    obtain ⟨t0, rfl⟩ := rv
    cases e <;> simp [eqC] at h <;> subst h
    · obtain rfl := rep_non.mp q; cases ru; exact SeqAt.RcAt.str_none _ _
    · obtain rfl := rep_bl.mp q; cases ru; exact SeqAt.RcAt.str_bool _ _ _
    · obtain rfl := rep_int.mp q; obtain ⟨t, rfl⟩ := ru; exact SeqAt.RcAt.str_int _ _ _ _
    · rename_i c'
      obtain ⟨rfl, _⟩ := rep_str.mp q; obtain ⟨t, rfl⟩ := ru
      have e1 : (c == c') = ((⟨c.toArray⟩ : Str) == ⟨c'.toArray⟩) := by
        rw [Bool.eq_iff_iff]
        simp
      rw [e1]
      exact SeqAt.RcAt.str_str _ _ _ _
    · obtain ⟨a, vs, rfl, t, _⟩ := rep_tup.mp q; cases ru; obtain ⟨i, _, p, _⟩ := I.tuple t.sq; exact SeqAt.RcAt.str_tuple _ _ p hu'
    · obtain ⟨a, vs, rfl, t, _⟩ := rep_lst.mp q; cases ru; obtain ⟨i, _, p, _⟩ := I.list t.sq; exact SeqAt.RcAt.str_list _ _ p.isList hu'
  | tup ds =>
    obtain ⟨a, vs, rfl, ta, rs⟩ := rep_tup.mp r
    cases rv
    obtain ⟨i, ri, p, _⟩ := I.tuple ta.sq
    cases e with
    | tup es =>
      obtain ⟨a', us, rfl, ta', qs⟩ := rep_tup.mp q
      cases ru
      obtain ⟨i', ri', p', _⟩ := I.tuple ta'.sq
      · cases n with
        | zero => unfold eqC at h; cases h
        | succ n =>
          unfold eqC at h
          cases hc : eqCs ds n es with
          | none => rw [hc] at h; cases h
          | some c =>
            rw [hc] at h
            cases h
            obtain ⟨f, hf, hb⟩ := eqCs_get hc
            have k := SeqAt.RcAt.tuples (A := A) (s := s) (e := f) p p' hu' (fun j h1 h2 => by
              have l1 : j < ds.length := by rw [rs.length, ri.length]; simpa using h1
              have l2 : j < es.length := by rw [qs.length, ri'.length]; simpa using h2
              obtain ⟨xv, g1, r1⟩ := rs.get (List.getElem?_eq_getElem l1)
              obtain ⟨yv, g2, q1⟩ := qs.get (List.getElem?_eq_getElem l2)
              obtain ⟨xu, k1, m1⟩ := ri.get g1
              obtain ⟨yu, k2, m2⟩ := ri'.get g2
              have z1 : i.toArray[j] = xu := by
                have := List.getElem?_eq_some_iff.mp k1
                obtain ⟨_, e⟩ := this
                simpa using e
              have z2 : i'.toArray[j] = yu := by
                have := List.getElem?_eq_some_iff.mp k2
                obtain ⟨_, e⟩ := this
                simpa using e
              rw [z1, z2]
              exact eq_at I n _ _ _ _ _ _ _ A.in1 (hf j _ _ (List.getElem?_eq_getElem l1) (List.getElem?_eq_getElem l2)) r1 q1 m1 m2 (by rw [in1_units]; omega))
            have z : ((List.range (min i.toArray.size i'.toArray.size)).all f && i.toArray.size == i'.toArray.size) = (c && ds.length == es.length) := by
              rw [hb]
              simp only [List.size_toArray]
              rw [← ri.length, ← ri'.length, ← rs.length, ← qs.length]
            rw [z] at k
            exact k
    | lst es =>
      simp [eqC] at h
      subst h
      obtain ⟨a', us, rfl, ta', qs⟩ := rep_lst.mp q
      cases ru
      obtain ⟨i', ri', p', _⟩ := I.list ta'.sq
      exact SeqAt.RcAt.tuple_list p p'.isList hu'
    | non => simp [eqC] at h; subst h; obtain rfl := rep_non.mp q; cases ru; exact SeqAt.RcAt.tuple_none p hu'
    | bl _ => simp [eqC] at h; subst h; obtain rfl := rep_bl.mp q; cases ru; exact SeqAt.RcAt.tuple_bool _ p hu'
    | int _ => simp [eqC] at h; subst h; obtain rfl := rep_int.mp q; obtain ⟨t, rfl⟩ := ru; exact SeqAt.RcAt.tuple_int _ _ p hu'
    | str _ => simp [eqC] at h; subst h; obtain ⟨rfl, _⟩ := rep_str.mp q; obtain ⟨t, rfl⟩ := ru; exact SeqAt.RcAt.tuple_str _ _ p hu'
    | ref _ => simp [eqC] at h
    | ty _ => simp [eqC] at h
  | lst ds =>
    obtain ⟨a, vs, rfl, ta, rs⟩ := rep_lst.mp r
    cases rv
    obtain ⟨i, ri, p, _⟩ := I.list ta.sq
    cases e with
    | lst es =>
      obtain ⟨a', us, rfl, ta', qs⟩ := rep_lst.mp q
      cases ru
      obtain ⟨i', ri', p', _⟩ := I.list ta'.sq
      · cases n with
        | zero => unfold eqC at h; cases h
        | succ n =>
          unfold eqC at h
          by_cases hl : ds.length = es.length
          · rw [if_pos hl] at h
            obtain ⟨f, hf, hb⟩ := eqCs_get h
            have hsz : i.toArray.size = i'.toArray.size := by
              simp only [List.size_toArray]
              rw [← ri.length, ← ri'.length, ← rs.length, ← qs.length]
              exact hl
            have k := SeqAt.RcAt.lists (A := A) (s := s) (e := f) p.isList p'.isList hsz hu' (fun j h1 h2 => by
              have l1 : j < ds.length := by rw [rs.length, ri.length]; simpa using h1
              have l2 : j < es.length := by rw [qs.length, ri'.length]; simpa using h2
              obtain ⟨xv, g1, r1⟩ := rs.get (List.getElem?_eq_getElem l1)
              obtain ⟨yv, g2, q1⟩ := qs.get (List.getElem?_eq_getElem l2)
              obtain ⟨xu, k1, m1⟩ := ri.get g1
              obtain ⟨yu, k2, m2⟩ := ri'.get g2
              have z1 : i.toArray[j] = xu := by
                have := List.getElem?_eq_some_iff.mp k1
                obtain ⟨_, e⟩ := this
                simpa using e
              have z2 : i'.toArray[j] = yu := by
                have := List.getElem?_eq_some_iff.mp k2
                obtain ⟨_, e⟩ := this
                simpa using e
              rw [z1, z2]
              exact eq_at I n _ _ _ _ _ _ _ A.in1 (hf j _ _ (List.getElem?_eq_getElem l1) (List.getElem?_eq_getElem l2)) r1 q1 m1 m2 (by rw [in1_units]; omega))
            have z : ((List.range i.toArray.size).all f) = b := by
              rw [hb]
              simp only [List.size_toArray]
              rw [← ri.length, ← rs.length, hl, Nat.min_self]
            rw [z] at k
            exact k
          · rw [if_neg hl] at h
            cases h
            exact (SeqAt.RcAt.lists_lengths p.isList p'.isList (by
              simp only [List.size_toArray, bne_iff_ne, ne_eq]
              rw [← ri.length, ← ri'.length, ← rs.length, ← qs.length]
              exact hl) hu')
    | tup es =>
      simp [eqC] at h
      subst h
      obtain ⟨a', us, rfl, ta', qs⟩ := rep_tup.mp q
      cases ru
      obtain ⟨i', ri', p', _⟩ := I.tuple ta'.sq
      exact SeqAt.RcAt.list_tuple p.isList p' hu'
    | non => simp [eqC] at h; subst h; obtain rfl := rep_non.mp q; cases ru; exact SeqAt.RcAt.list_none p.isList hu'
    | bl _ => simp [eqC] at h; subst h; obtain rfl := rep_bl.mp q; cases ru; exact SeqAt.RcAt.list_bool _ p.isList hu'
    | int _ => simp [eqC] at h; subst h; obtain rfl := rep_int.mp q; obtain ⟨t, rfl⟩ := ru; exact SeqAt.RcAt.list_int _ _ p.isList hu'
    | str _ => simp [eqC] at h; subst h; obtain ⟨rfl, _⟩ := rep_str.mp q; obtain ⟨t, rfl⟩ := ru; exact SeqAt.RcAt.list_str _ _ p.isList hu'
    | ref _ => simp [eqC] at h
    | ty _ => simp [eqC] at h
  | ref _ => simp [eqC] at h
  | ty _ => simp [eqC] at h
theorem rcne_at (I : Inv X pins σ H s) : ∀ (n : Nat) (d e : D) (b : Bool) (x y : V) (v u : Value) (A : Around), eqC d n e = some b → Rep X.K M H d x → Rep X.K M H e y → RelV x v → RelV y u → A.units + n + 1 < cLine → SeqAt.RcNeAt A s v u (!b) := by
  intro n d e b x y v u A h r q rv ru hu
  have hu' : A.units < cLine := by omega
  cases d with
  | non =>
    obtain rfl := rep_non.mp r
    cases rv
    cases e <;> simp [eqC] at h <;> subst h
    · obtain rfl := rep_non.mp q; cases ru; exact SeqAt.RcNeAt.none_none
    · obtain rfl := rep_bl.mp q; cases ru; exact SeqAt.RcNeAt.none_bool _
    · obtain rfl := rep_int.mp q; obtain ⟨t, rfl⟩ := ru; exact SeqAt.RcNeAt.none_int _ _
    · obtain ⟨rfl, _⟩ := rep_str.mp q; obtain ⟨t, rfl⟩ := ru; exact SeqAt.RcNeAt.none_str _ _
    · obtain ⟨a, vs, rfl, t, _⟩ := rep_tup.mp q; cases ru; obtain ⟨i, _, p, _⟩ := I.tuple t.sq; exact SeqAt.RcNeAt.none_tuple p hu'
    · obtain ⟨a, vs, rfl, t, _⟩ := rep_lst.mp q; cases ru; obtain ⟨i, _, p, _⟩ := I.list t.sq; exact SeqAt.RcNeAt.none_list p.isList hu'
  | bl c =>
    obtain rfl := rep_bl.mp r
    cases rv
    cases e <;> simp [eqC] at h <;> subst h
    · obtain rfl := rep_non.mp q; cases ru; exact SeqAt.RcNeAt.bool_none _
    · obtain rfl := rep_bl.mp q; cases ru; exact SeqAt.RcNeAt.bool_bool _ _
    · obtain rfl := rep_int.mp q; obtain ⟨t, rfl⟩ := ru; exact SeqAt.RcNeAt.bool_int _ _ _
    · obtain ⟨rfl, _⟩ := rep_str.mp q; obtain ⟨t, rfl⟩ := ru; exact SeqAt.RcNeAt.bool_str _ _ _
    · obtain ⟨a, vs, rfl, t, _⟩ := rep_tup.mp q; cases ru; obtain ⟨i, _, p, _⟩ := I.tuple t.sq; exact SeqAt.RcNeAt.bool_tuple _ p hu'
    · obtain ⟨a, vs, rfl, t, _⟩ := rep_lst.mp q; cases ru; obtain ⟨i, _, p, _⟩ := I.list t.sq; exact SeqAt.RcNeAt.bool_list _ p.isList hu'
  | int c =>
    obtain rfl := rep_int.mp r
    obtain ⟨t0, rfl⟩ := rv
    cases e <;> simp [eqC] at h <;> subst h
    · obtain rfl := rep_non.mp q; cases ru; exact SeqAt.RcNeAt.int_none _ _
    · obtain rfl := rep_bl.mp q; cases ru; exact SeqAt.RcNeAt.int_bool _ _ _
    · obtain rfl := rep_int.mp q; obtain ⟨t, rfl⟩ := ru; exact SeqAt.RcNeAt.int_int _ _ _ _
    · obtain ⟨rfl, _⟩ := rep_str.mp q; obtain ⟨t, rfl⟩ := ru; exact SeqAt.RcNeAt.int_str _ _ _ _
    · obtain ⟨a, vs, rfl, t, _⟩ := rep_tup.mp q; cases ru; obtain ⟨i, _, p, _⟩ := I.tuple t.sq; exact SeqAt.RcNeAt.int_tuple _ _ p hu'
    · obtain ⟨a, vs, rfl, t, _⟩ := rep_lst.mp q; cases ru; obtain ⟨i, _, p, _⟩ := I.list t.sq; exact SeqAt.RcNeAt.int_list _ _ p.isList hu'
  | str c =>
    obtain ⟨rfl, _⟩ := rep_str.mp r
    obtain ⟨t0, rfl⟩ := rv
    cases e <;> simp [eqC] at h <;> subst h
    · obtain rfl := rep_non.mp q; cases ru; exact SeqAt.RcNeAt.str_none _ _
    · obtain rfl := rep_bl.mp q; cases ru; exact SeqAt.RcNeAt.str_bool _ _ _
    · obtain rfl := rep_int.mp q; obtain ⟨t, rfl⟩ := ru; exact SeqAt.RcNeAt.str_int _ _ _ _
    · rename_i c'
      obtain ⟨rfl, _⟩ := rep_str.mp q; obtain ⟨t, rfl⟩ := ru
      have e1 : (c == c') = ((⟨c.toArray⟩ : Str) == ⟨c'.toArray⟩) := by
        rw [Bool.eq_iff_iff]
        simp
      rw [e1]
      exact SeqAt.RcNeAt.str_str _ _ _ _
    · obtain ⟨a, vs, rfl, t, _⟩ := rep_tup.mp q; cases ru; obtain ⟨i, _, p, _⟩ := I.tuple t.sq; exact SeqAt.RcNeAt.str_tuple _ _ p hu'
    · obtain ⟨a, vs, rfl, t, _⟩ := rep_lst.mp q; cases ru; obtain ⟨i, _, p, _⟩ := I.list t.sq; exact SeqAt.RcNeAt.str_list _ _ p.isList hu'
  | tup ds =>
    obtain ⟨a, vs, rfl, ta, rs⟩ := rep_tup.mp r
    cases rv
    obtain ⟨i, ri, p, _⟩ := I.tuple ta.sq
    cases e with
    | tup es =>
      obtain ⟨a', us, rfl, ta', qs⟩ := rep_tup.mp q
      cases ru
      obtain ⟨i', ri', p', _⟩ := I.tuple ta'.sq
      · cases n with
        | zero => unfold eqC at h; cases h
        | succ n =>
          unfold eqC at h
          cases hc : eqCs ds n es with
          | none => rw [hc] at h; cases h
          | some c =>
            rw [hc] at h
            cases h
            obtain ⟨f, hf, hb⟩ := eqCs_get hc
            have k := SeqAt.RcNeAt.tuples (A := A) (s := s) (e := f) p p' hu' (fun j h1 h2 => by
              have l1 : j < ds.length := by rw [rs.length, ri.length]; simpa using h1
              have l2 : j < es.length := by rw [qs.length, ri'.length]; simpa using h2
              obtain ⟨xv, g1, r1⟩ := rs.get (List.getElem?_eq_getElem l1)
              obtain ⟨yv, g2, q1⟩ := qs.get (List.getElem?_eq_getElem l2)
              obtain ⟨xu, k1, m1⟩ := ri.get g1
              obtain ⟨yu, k2, m2⟩ := ri'.get g2
              have z1 : i.toArray[j] = xu := by
                have := List.getElem?_eq_some_iff.mp k1
                obtain ⟨_, e⟩ := this
                simpa using e
              have z2 : i'.toArray[j] = yu := by
                have := List.getElem?_eq_some_iff.mp k2
                obtain ⟨_, e⟩ := this
                simpa using e
              rw [z1, z2]
              exact eq_at I n _ _ _ _ _ _ _ A.in1 (hf j _ _ (List.getElem?_eq_getElem l1) (List.getElem?_eq_getElem l2)) r1 q1 m1 m2 (by rw [in1_units]; omega))
            have z : ((List.range (min i.toArray.size i'.toArray.size)).all f && i.toArray.size == i'.toArray.size) = (c && ds.length == es.length) := by
              rw [hb]
              simp only [List.size_toArray]
              rw [← ri.length, ← ri'.length, ← rs.length, ← qs.length]
            rw [z] at k
            exact k
    | lst es =>
      simp [eqC] at h
      subst h
      obtain ⟨a', us, rfl, ta', qs⟩ := rep_lst.mp q
      cases ru
      obtain ⟨i', ri', p', _⟩ := I.list ta'.sq
      exact SeqAt.RcNeAt.tuple_list p p'.isList hu'
    | non => simp [eqC] at h; subst h; obtain rfl := rep_non.mp q; cases ru; exact SeqAt.RcNeAt.tuple_none p hu'
    | bl _ => simp [eqC] at h; subst h; obtain rfl := rep_bl.mp q; cases ru; exact SeqAt.RcNeAt.tuple_bool _ p hu'
    | int _ => simp [eqC] at h; subst h; obtain rfl := rep_int.mp q; obtain ⟨t, rfl⟩ := ru; exact SeqAt.RcNeAt.tuple_int _ _ p hu'
    | str _ => simp [eqC] at h; subst h; obtain ⟨rfl, _⟩ := rep_str.mp q; obtain ⟨t, rfl⟩ := ru; exact SeqAt.RcNeAt.tuple_str _ _ p hu'
    | ref _ => simp [eqC] at h
    | ty _ => simp [eqC] at h
  | lst ds =>
    obtain ⟨a, vs, rfl, ta, rs⟩ := rep_lst.mp r
    cases rv
    obtain ⟨i, ri, p, _⟩ := I.list ta.sq
    cases e with
    | lst es =>
      obtain ⟨a', us, rfl, ta', qs⟩ := rep_lst.mp q
      cases ru
      obtain ⟨i', ri', p', _⟩ := I.list ta'.sq
      · cases n with
        | zero => unfold eqC at h; cases h
        | succ n =>
          unfold eqC at h
          by_cases hl : ds.length = es.length
          · rw [if_pos hl] at h
            obtain ⟨f, hf, hb⟩ := eqCs_get h
            have hsz : i.toArray.size = i'.toArray.size := by
              simp only [List.size_toArray]
              rw [← ri.length, ← ri'.length, ← rs.length, ← qs.length]
              exact hl
            have k := SeqAt.RcNeAt.lists (A := A) (s := s) (e := f) p.isList p'.isList hsz hu' (fun j h1 h2 => by
              have l1 : j < ds.length := by rw [rs.length, ri.length]; simpa using h1
              have l2 : j < es.length := by rw [qs.length, ri'.length]; simpa using h2
              obtain ⟨xv, g1, r1⟩ := rs.get (List.getElem?_eq_getElem l1)
              obtain ⟨yv, g2, q1⟩ := qs.get (List.getElem?_eq_getElem l2)
              obtain ⟨xu, k1, m1⟩ := ri.get g1
              obtain ⟨yu, k2, m2⟩ := ri'.get g2
              have z1 : i.toArray[j] = xu := by
                have := List.getElem?_eq_some_iff.mp k1
                obtain ⟨_, e⟩ := this
                simpa using e
              have z2 : i'.toArray[j] = yu := by
                have := List.getElem?_eq_some_iff.mp k2
                obtain ⟨_, e⟩ := this
                simpa using e
              rw [z1, z2]
              exact eq_at I n _ _ _ _ _ _ _ A.in1 (hf j _ _ (List.getElem?_eq_getElem l1) (List.getElem?_eq_getElem l2)) r1 q1 m1 m2 (by rw [in1_units]; omega))
            have z : ((List.range i.toArray.size).all f) = b := by
              rw [hb]
              simp only [List.size_toArray]
              rw [← ri.length, ← rs.length, hl, Nat.min_self]
            rw [z] at k
            exact k
          · rw [if_neg hl] at h
            cases h
            exact (SeqAt.RcNeAt.lists_lengths p.isList p'.isList (by
              simp only [List.size_toArray, bne_iff_ne, ne_eq]
              rw [← ri.length, ← ri'.length, ← rs.length, ← qs.length]
              exact hl) hu')
    | tup es =>
      simp [eqC] at h
      subst h
      obtain ⟨a', us, rfl, ta', qs⟩ := rep_tup.mp q
      cases ru
      obtain ⟨i', ri', p', _⟩ := I.tuple ta'.sq
      exact SeqAt.RcNeAt.list_tuple p.isList p' hu'
    | non => simp [eqC] at h; subst h; obtain rfl := rep_non.mp q; cases ru; exact SeqAt.RcNeAt.list_none p.isList hu'
    | bl _ => simp [eqC] at h; subst h; obtain rfl := rep_bl.mp q; cases ru; exact SeqAt.RcNeAt.list_bool _ p.isList hu'
    | int _ => simp [eqC] at h; subst h; obtain rfl := rep_int.mp q; obtain ⟨t, rfl⟩ := ru; exact SeqAt.RcNeAt.list_int _ _ p.isList hu'
    | str _ => simp [eqC] at h; subst h; obtain ⟨rfl, _⟩ := rep_str.mp q; obtain ⟨t, rfl⟩ := ru; exact SeqAt.RcNeAt.list_str _ _ p.isList hu'
    | ref _ => simp [eqC] at h
    | ty _ => simp [eqC] at h
  | ref _ => simp [eqC] at h
  | ty _ => simp [eqC] at h
end
section
variable {X : Cx}
/-! ### comparisons -/
/-- == and != of data -/
@[simp] def dEq : R2d := fun M x y Q => ∃ b, eqC (vw M x) 64 (vw M y) = some b ∧ Q (.bl b)
@[simp] def dNe : R2d := fun M x y Q => ∃ b, eqC (vw M x) 64 (vw M y) = some b ∧ Q (.bl (!b))
theorem op_dEq (hu : X.A.units + 66 < cLine) : OpD X (compareOp .Eq) dEq := by
  intro pins s σ H x y v u Q I rx ry h
  obtain ⟨M, a, b, Φ, rm, ra, rb, ⟨c, e, h⟩, k⟩ := h
  exact rc_at I 64 _ _ c x y v u X.A e (ra.vw rm) (rb.vw rm) rx ry (by omega) _ _ _ _ ⟨.bl c, H, I, rfl, k _ _ H .refl rm (rep_bl.mpr rfl) h⟩
theorem op_dNe (hu : X.A.units + 66 < cLine) : OpD X (compareOp .NotEq) dNe := by
  intro pins s σ H x y v u Q I rx ry h
  obtain ⟨M, a, b, Φ, rm, ra, rb, ⟨c, e, h⟩, k⟩ := h
  exact rcne_at I 64 _ _ c x y v u X.A e (ra.vw rm) (rb.vw rm) rx ry (by omega) _ _ _ _ ⟨.bl (!c), H, I, rfl, k _ _ H .refl rm (rep_bl.mpr rfl) h⟩
end
end DL

set_option Elab.async false
set_option linter.all false
set_option maxRecDepth 100000
/-! DL5: order, in, is. -/
namespace DL
open PySem L2
section
variable {X : Cx} {pins : List (Addr × Obj)} {σ : L2.St} {H : Hp} {s : Shared} {M : Mm}
theorem not_lst_tup (I : Inv X pins σ H s) {a : Addr} {xs ys : List V} (h : SqT X.K H a xs) (h' : SqL X.K H a ys) : False := by
  obtain ⟨i1, _, p1, _⟩ := I.tuple h
  obtain ⟨i2, _, p2, _⟩ := I.list h'
  obtain ⟨o1, e1, c1, _⟩ := p1
  obtain ⟨o2, n2, e2, c2, _⟩ := p2
  rw [e1] at e2
  cases e2
  rw [c1] at c2
  exact absurd c2 (by simp)
/-- two readings of one value -/
theorem rep_cases (I : Inv X pins σ H s) {d d' : D} {v : V} (r : Rep X.K M H d v) (q : Rep X.K M H d' v) (h1 : ∀ a, d ≠ .ref a) (h2 : ∀ a, d' ≠ .ref a) :
    (d = d' ∧ (∀ ds, d ≠ .tup ds) ∧ (∀ ds, d ≠ .lst ds)) ∨ (∃ ds es vs, d = .tup ds ∧ d' = .tup es ∧ Reps X.K M H ds vs ∧ Reps X.K M H es vs) ∨ (∃ ds es vs, d = .lst ds ∧ d' = .lst es ∧ Reps X.K M H ds vs ∧ Reps X.K M H es vs) := by
  cases d with
  | ref a => exact absurd rfl (h1 a)
  | tup ds =>
    obtain ⟨a, vs, rfl, t, rs⟩ := rep_tup.mp r
    cases d' with
    | tup es =>
      obtain ⟨a', us, e1, t', qs⟩ := rep_tup.mp q
      cases e1
      have e2 := I.tuple_inj t.sq t'.sq
      subst e2
      exact .inr (.inl ⟨ds, es, vs, rfl, rfl, rs, qs⟩)
    | lst es =>
      obtain ⟨a', us, e1, t', qs⟩ := rep_lst.mp q
      cases e1
      exact (not_lst_tup I t.sq t'.sq).elim
    | ref a => exact absurd rfl (h2 a)
    | str _ => have := (rep_str.mp q).1; cases this
    | non => have := rep_non.mp q; cases this
    | bl _ => have := rep_bl.mp q; cases this
    | int _ => have := rep_int.mp q; cases this
    | ty _ => have := rep_ty.mp q; cases this
  | lst ds =>
    obtain ⟨a, vs, rfl, t, rs⟩ := rep_lst.mp r
    cases d' with
    | lst es =>
      obtain ⟨a', us, e1, t', qs⟩ := rep_lst.mp q
      cases e1
      have e2 := I.list_inj t.sq t'.sq
      subst e2
      exact .inr (.inr ⟨ds, es, vs, rfl, rfl, rs, qs⟩)
    | tup es =>
      obtain ⟨a', us, e1, t', qs⟩ := rep_tup.mp q
      cases e1
      exact (not_lst_tup I t'.sq t.sq).elim
    | ref a => exact absurd rfl (h2 a)
    | str _ => have := (rep_str.mp q).1; cases this
    | non => have := rep_non.mp q; cases this
    | bl _ => have := rep_bl.mp q; cases this
    | int _ => have := rep_int.mp q; cases this
    | ty _ => have := rep_ty.mp q; cases this
  | non =>
    obtain rfl := rep_non.mp r
    refine .inl ⟨?_, (fun _ h => nomatch h), (fun _ h => nomatch h)⟩
    cases d' <;> simp [rep_non, rep_bl, rep_int, rep_str, rep_tup, rep_lst, rep_ref, rep_ty] at q h2 ⊢
  | bl b =>
    obtain rfl := rep_bl.mp r
    refine .inl ⟨?_, (fun _ h => nomatch h), (fun _ h => nomatch h)⟩
    cases d' <;> simp_all [rep_non, rep_bl, rep_int, rep_str, rep_tup, rep_lst, rep_ref, rep_ty]
  | int b =>
    obtain rfl := rep_int.mp r
    refine .inl ⟨?_, (fun _ h => nomatch h), (fun _ h => nomatch h)⟩
    cases d' <;> simp_all [rep_non, rep_bl, rep_int, rep_str, rep_tup, rep_lst, rep_ref, rep_ty]
  | ty b =>
    obtain rfl := rep_ty.mp r
    refine .inl ⟨?_, (fun _ h => nomatch h), (fun _ h => nomatch h)⟩
    cases d' <;> simp_all [rep_non, rep_bl, rep_int, rep_str, rep_tup, rep_lst, rep_ref, rep_ty]
  | str b =>
    obtain ⟨rfl, _⟩ := rep_str.mp r
    refine .inl ⟨?_, (fun _ h => nomatch h), (fun _ h => nomatch h)⟩
    cases d' <;> simp_all [rep_non, rep_bl, rep_int, rep_str, rep_tup, rep_lst, rep_ref, rep_ty]
theorem eqC_noref {d x : D} {n : Nat} {b : Bool} (h : eqC d n x = some b) : ∀ a, d ≠ .ref a := fun a e => by subst e; unfold eqC at h; cases h
mutual
theorem eqC_det (I : Inv X pins σ H s) : ∀ (d : D) (n : Nat) (d' x : D) (b b' : Bool) (v : V), Rep X.K M H d v → Rep X.K M H d' v → eqC d n x = some b → eqC d' n x = some b' → b = b'
  | .tup ds, n, d', x, b, b', v, r, q, h, h' => by
    rcases rep_cases I r q (eqC_noref h) (eqC_noref h') with ⟨e, z, _⟩ | ⟨ds', es, vs, e, e', rs, qs⟩ | ⟨ds', es, vs, e, _⟩
    · exact absurd rfl (z ds)
    · cases e
      subst e'
      cases x with
      | tup ys =>
        cases n with
        | zero => unfold eqC at h; cases h
        | succ n =>
          unfold eqC at h h'
          cases hc : eqCs ds n ys with
          | none => rw [hc] at h; cases h
          | some c =>
            cases hc' : eqCs es n ys with
            | none => rw [hc'] at h'; cases h'
            | some c' =>
              rw [hc] at h
              rw [hc'] at h'
              cases h
              cases h'
              rw [eqCs_det I ds n es ys c c' vs rs qs hc hc', rs.length, qs.length]
      | ref _ => unfold eqC at h; cases h
      | ty _ => unfold eqC at h; cases h
      | _ => simp [eqC] at h h'; subst h; subst h'; rfl
    · cases e
  | .lst ds, n, d', x, b, b', v, r, q, h, h' => by
    rcases rep_cases I r q (eqC_noref h) (eqC_noref h') with ⟨e, _, z⟩ | ⟨ds', es, vs, e, _⟩ | ⟨ds', es, vs, e, e', rs, qs⟩
    · exact absurd rfl (z ds)
    · cases e
    · cases e
      subst e'
      cases x with
      | lst ys =>
        cases n with
        | zero => unfold eqC at h; cases h
        | succ n =>
          unfold eqC at h h'
          have le : ds.length = es.length := by rw [rs.length, qs.length]
          by_cases hl : ds.length = ys.length
          · rw [if_pos hl] at h
            rw [if_pos (le ▸ hl)] at h'
            exact eqCs_det I ds n es ys b b' vs rs qs h h'
          · rw [if_neg hl] at h
            rw [if_neg (le ▸ hl)] at h'
            cases h
            cases h'
            rfl
      | ref _ => unfold eqC at h; cases h
      | ty _ => unfold eqC at h; cases h
      | _ => simp [eqC] at h h'; subst h; subst h'; rfl
  | .ref a, n, d', x, b, b', v, r, q, h, h' => absurd rfl (eqC_noref h a)
  | .ty a, n, d', x, b, b', v, r, q, h, h' => by unfold eqC at h; cases h
  | .non, n, d', x, b, b', v, r, q, h, h' => by
    rcases rep_cases I r q (eqC_noref h) (eqC_noref h') with ⟨e, _, z⟩ | ⟨_, _, _, e, _⟩ | ⟨_, _, _, e, _⟩
    · subst e; rw [h] at h'; exact Option.some.inj h'
    · cases e
    · cases e
  | .bl c, n, d', x, b, b', v, r, q, h, h' => by
    rcases rep_cases I r q (eqC_noref h) (eqC_noref h') with ⟨e, _, z⟩ | ⟨_, _, _, e, _⟩ | ⟨_, _, _, e, _⟩
    · subst e; rw [h] at h'; exact Option.some.inj h'
    · cases e
    · cases e
  | .int c, n, d', x, b, b', v, r, q, h, h' => by
    rcases rep_cases I r q (eqC_noref h) (eqC_noref h') with ⟨e, _, z⟩ | ⟨_, _, _, e, _⟩ | ⟨_, _, _, e, _⟩
    · subst e; rw [h] at h'; exact Option.some.inj h'
    · cases e
    · cases e
  | .str c, n, d', x, b, b', v, r, q, h, h' => by
    rcases rep_cases I r q (eqC_noref h) (eqC_noref h') with ⟨e, _, z⟩ | ⟨_, _, _, e, _⟩ | ⟨_, _, _, e, _⟩
    · subst e; rw [h] at h'; exact Option.some.inj h'
    · cases e
    · cases e
theorem eqCs_det (I : Inv X pins σ H s) : ∀ (ds : List D) (n : Nat) (es ys : List D) (b b' : Bool) (vs : List V), Reps X.K M H ds vs → Reps X.K M H es vs → eqCs ds n ys = some b → eqCs es n ys = some b' → b = b'
  | [], n, es, ys, b, b', vs, r, q, h, h' => by
    obtain rfl := Reps.nil_inv r
    have : es = [] := by have := q.length; simpa using this
    subst this
    rw [h] at h'
    exact Option.some.inj h'
  | d :: ds, n, [], ys, b, b', vs, r, q, h, h' => by
    obtain rfl := Reps.nil_inv q
    have := r.length
    simp at this
  | d :: ds, n, e :: es, [], b, b', vs, r, q, h, h' => by
    unfold eqCs at h h'
    cases h
    cases h'
    rfl
  | d :: ds, n, e :: es, y :: ys, b, b', vs, r, q, h, h' => by
    obtain ⟨v, vr, rfl, r1, r2⟩ := Reps.inv r
    obtain ⟨u, ur, e1, q1, q2⟩ := Reps.inv q
    cases e1
    unfold eqCs at h h'
    cases h1 : eqC d n y with
    | none => rw [h1] at h; cases h
    | some c =>
      rw [h1] at h
      cases h2 : eqCs ds n ys with
      | none => rw [h2] at h; cases h
      | some c1 =>
        rw [h2] at h
        cases h3 : eqC e n y with
        | none => rw [h3] at h'; cases h'
        | some d1 =>
          rw [h3] at h'
          cases h4 : eqCs es n ys with
          | none => rw [h4] at h'; cases h'
          | some d2 =>
            rw [h4] at h'
            have z1 := eqC_det I d n e y c d1 v r1 q1 h1 h3
            have z2 := eqCs_det I ds n es ys c1 d2 vr r2 q2 h2 h4
            have k1 : some (c && c1) = some b := h
            have k2 : some (d1 && d2) = some b' := h'
            cases k1
            cases k2
            rw [z1, z2]
end
/-- is x one of ds? none: not served -/
def inC (x : D) : List D → Option Bool
  | [] => some false
  | d :: ds => (eqC d 64 x).bind fun b => (inC x ds).map fun c => b || c
theorem inC_get {x : D} : ∀ {ds : List D} {b : Bool}, inC x ds = some b → ∃ f : Nat → Bool, (∀ j d, ds[j]? = some d → eqC d 64 x = some (f j)) ∧ b = (List.range ds.length).any f
  | [], b, h => ⟨fun _ => false, fun j d h1 => by simp at h1, by unfold inC at h; cases h; simp⟩
  | d :: ds, b, h => by
    unfold inC at h
    cases h1 : eqC d 64 x with
    | none => rw [h1] at h; cases h
    | some c =>
      rw [h1] at h
      cases h2 : inC x ds with
      | none => rw [h2] at h; cases h
      | some c' =>
        rw [h2] at h
        obtain ⟨f, hf, hb⟩ := inC_get h2
        refine ⟨fun j => match j with | 0 => c | j + 1 => f j, fun j y q1 => ?_, ?_⟩
        · cases j with
          | zero => simp at q1; subst q1; exact h1
          | succ j => exact hf j y (by simpa using q1)
        · have e0 : b = (c || c') := by
            have h3 : some (c || c') = some b := h
            exact (Option.some.inj h3).symm
          rw [e0, hb, List.length_cons, List.range_succ_eq_map, List.any_cons, List.any_map]
          rfl
open Classical in
/-- the items' answers by their values -/
theorem in_vals (I : Inv X pins σ H s) {x : D} {xv : V} {xu : Value} {ds : List D} {vs : List V} {us : List Value} {b : Bool} (rs : Reps X.K M H ds vs) (ru : Vals vs us) (r : Rep X.K M H x xv) (rx : RelV xv xu) (h : inC x ds = some b) (hu : X.A.units + 67 < cLine) :
    ∃ e : Value → Bool, (∀ y, y ∈ us.toArray → SeqAt.EqAt X.A.in1 s y xu (e y)) ∧ us.toArray.any e = b := by
  obtain ⟨f, hf, hb⟩ := inC_get h
  have hl : ds.length = us.length := by rw [rs.length, ru.length]
  let e : Value → Bool := fun u => decide (∃ j, us[j]? = some u ∧ j < ds.length ∧ f j = true)
  have key : ∀ (j : Nat) (u : Value), us[j]? = some u → e u = f j := by
    intro j u hj
    have hlt : j < us.length := (List.getElem?_eq_some_iff.mp hj).1
    have hlt' : j < ds.length := by omega
    cases hfj : f j with
    | true => exact decide_eq_true ⟨j, hj, hlt', hfj⟩
    | false =>
      refine decide_eq_false fun ⟨i, hi, hil, hfi⟩ => ?_
      obtain ⟨v1, g1, r1⟩ := rs.get (List.getElem?_eq_getElem hlt')
      obtain ⟨v2, g2, r2⟩ := rs.get (List.getElem?_eq_getElem hil)
      obtain ⟨u1, k1, m1⟩ := ru.get g1
      obtain ⟨u2, k2, m2⟩ := ru.get g2
      rw [hj] at k1
      rw [hi] at k2
      cases k1
      cases k2
      have ev := m1.inj m2
      subst ev
      have := eqC_det I _ 64 _ x _ _ v1 r1 r2 (hf j _ (List.getElem?_eq_getElem hlt')) (hf i _ (List.getElem?_eq_getElem hil))
      rw [hfj, hfi] at this
      cases this
  refine ⟨e, fun y hy => ?_, ?_⟩
  · have hy' : y ∈ us := by simpa using hy
    obtain ⟨j, hj, rfl⟩ := List.getElem_of_mem hy'
    have hj' : us[j]? = some us[j] := List.getElem?_eq_getElem hj
    rw [key j _ hj']
    have hlt' : j < ds.length := by omega
    obtain ⟨v1, g1, r1⟩ := rs.get (List.getElem?_eq_getElem hlt')
    obtain ⟨u1, k1, m1⟩ := ru.get g1
    rw [hj'] at k1
    cases k1
    exact eq_at I 64 _ _ _ _ _ _ _ X.A.in1 (hf j _ (List.getElem?_eq_getElem hlt')) r1 r m1 rx (by rw [in1_units]; omega)
  · rw [hb, hl, List.any_toArray, Bool.eq_iff_iff, List.any_eq_true, List.any_eq_true]
    constructor
    · rintro ⟨u, hu, he⟩
      obtain ⟨j, hj, rfl⟩ := List.getElem_of_mem hu
      exact ⟨j, by simpa using hj, by rw [← key j _ (List.getElem?_eq_getElem hj)]; exact he⟩
    · rintro ⟨j, hj, he⟩
      have hj' : j < us.length := by simpa using hj
      exact ⟨us[j], List.getElem_mem hj', by rw [key j _ (List.getElem?_eq_getElem hj')]; exact he⟩
end
end DL

set_option Elab.async false
set_option linter.all false
set_option maxRecDepth 100000
/-! DL6: in, is, order; tests; truth. -/
namespace DL
open PySem L2
section
variable {X : Cx} {J : Jc}
/-- a text in a text -/
def inS (c z : List Nat) : Bool := !(Builtin.Str.occurrences ⟨z.toArray⟩ ⟨c.toArray⟩ 0 z.length 1).isEmpty
theorem inS_one (k : Nat) (z : List Nat) : inS [k] z = decide (k ∈ z) := by
  have := PySem.StrLaws.found_one ⟨z.toArray⟩ k
  simpa [inS, Str.length] using this
/-- is a key in a dict -/
def keyD : D → Option Key
  | .int i => some (.inl i)
  | .str x => some (.inr ⟨x.toArray⟩)
  | _ => none
@[simp] def dInW (M : Mm) (x y : D) : Option Bool := match vw M y with
  | .tup ds => inC x ds
  | .lst ds => inC x ds
  | .str z => match x with
    | .str c => some (inS c z)
    | _ => none
  | _ => none
@[simp] def dIn : R2d := fun M x y Q => ∃ b, dInW M x y = some b ∧ Q (.bl b)
@[simp] def dNotIn : R2d := fun M x y Q => ∃ b, dInW M x y = some b ∧ Q (.bl (!b))
theorem op_dInG (neg : Bool) (hu : X.A.units + 67 < cLine) : OpD X (compareOp (if neg then .NotIn else .In)) (fun M x y Q => ∃ b, dInW M x y = some b ∧ Q (.bl (if neg then !b else b))) := by
  intro pins s σ H x y v u Q I rx ry h
  obtain ⟨M, a, b, Φ, rm, ra, rb, ⟨c, e, h⟩, k⟩ := h
  have rb' := rb.vr rm
  unfold dInW at e
  generalize vw M b = b' at rb' e
  have fin : EP X pins σ Q (.bool (if neg then !c else c)) s := ⟨.bl (if neg then !c else c), H, I, rfl, k _ _ H .refl rm (rep_bl.mpr rfl) h⟩
  cases b' with
  | tup ds =>
    obtain ⟨p, vs, rfl, tp, r2⟩ := rep_tup.mp (vr_tup rb')
    cases ry
    obtain ⟨us, ru, it, _⟩ := I.tuple tp.sq
    obtain ⟨f, hf, hb⟩ := in_vals I r2 ru ra rx e hu
    rw [← hb] at fin
    cases neg with
    | true => exact SeqAt.notIn_tupleAt f it hf fin
    | false => exact SeqAt.in_tupleAt f it hf fin
  | lst ds =>
    obtain ⟨p, vs, rfl, tp, r2⟩ := vr_lst.mp rb'
    cases ry
    obtain ⟨us, ru, it, _⟩ := I.list tp
    obtain ⟨f, hf, hb⟩ := in_vals I r2 ru ra rx e hu
    rw [← hb] at fin
    cases neg with
    | true => exact SeqAt.notIn_listAt f it.isList hf fin
    | false => exact SeqAt.in_listAt f it.isList hf fin
  | str z =>
    obtain ⟨rfl, _⟩ := vr_str rb'
    cases a with
    | str c' =>
      obtain ⟨rfl, _⟩ := rep_str.mp ra
      have e' : inS c' z = c := Option.some.inj e
      rw [← e'] at fin h
      cases neg with
      | true =>
        refine op_notIn_str pins s σ H _ _ v u Q I rx ry ⟨_, _, rfl, rfl, ?_⟩
        have := k _ (.bl (!inS c' z)) H .refl rm (rep_bl.mpr rfl) h
        simpa [inS, Str.length] using this
      | false =>
        refine op_in_str pins s σ H _ _ v u Q I rx ry ⟨_, _, rfl, rfl, ?_⟩
        have := k _ (.bl (inS c' z)) H .refl rm (rep_bl.mpr rfl) h
        simpa [inS, Str.length] using this
    | _ => cases e
  | _ => cases e
theorem op_dIn (hu : X.A.units + 67 < cLine) : OpD X (compareOp .In) dIn := op_dInG false hu
theorem op_dNotIn (hu : X.A.units + 67 < cLine) : OpD X (compareOp .NotIn) dNotIn := op_dInG true hu

/-! ### is None -/
@[simp] def isNon : D → Bool
  | .non => true
  | _ => false
theorem isNon_rep {K : PySem.W.Frag} {M : Mm} {H : Hp} {d : D} {v : V} (r : Rep K M H d v) : decide (v = .non) = isNon d := by
  cases d with
  | non => obtain rfl := rep_non.mp r; rfl
  | bl _ => obtain rfl := rep_bl.mp r; rfl
  | int _ => obtain rfl := rep_int.mp r; rfl
  | ref _ => obtain rfl := rep_ref.mp r; rfl
  | ty _ => obtain rfl := rep_ty.mp r; rfl
  | str _ => obtain ⟨rfl, _⟩ := rep_str.mp r; rfl
  | tup _ => obtain ⟨_, _, rfl, _⟩ := rep_tup.mp r; rfl
  | lst _ => obtain ⟨_, _, rfl, _⟩ := rep_lst.mp r; rfl
@[simp] def dIsN : R2d := fun _ x y Q => y = .non ∧ Q (.bl (isNon x))
@[simp] def dNotN : R2d := fun _ x y Q => y = .non ∧ Q (.bl (!isNon x))
theorem op_dIsN : OpD X (compareOp .Is) dIsN := by
  intro pins s σ H x y v u Q I rx ry h
  obtain ⟨M, a, b, Φ, rm, ra, rb, ⟨rfl, h⟩, k⟩ := h
  obtain rfl := rep_non.mp rb
  refine op_isN pins s σ H _ _ v u Q I rx ry ⟨rfl, ?_⟩
  rw [isNon_rep ra]
  exact k _ _ H .refl rm (rep_bl.mpr rfl) h
theorem op_dNotN : OpD X (compareOp .IsNot) dNotN := by
  intro pins s σ H x y v u Q I rx ry h
  obtain ⟨M, a, b, Φ, rm, ra, rb, ⟨rfl, h⟩, k⟩ := h
  obtain rfl := rep_non.mp rb
  refine op_notN pins s σ H _ _ v u Q I rx ry ⟨rfl, ?_⟩
  rw [isNon_rep ra]
  exact k _ _ H .refl rm (rep_bl.mpr rfl) h

/-! ### order -/
/-- the order of texts -/
def ltS (a b : List Nat) : Bool := decide (a < b)
theorem ltS_iff {a b : List Nat} : ltS a b = true ↔ a < b := decide_eq_true_iff
@[simp] def dOrd (fi : Int → Int → Bool) (fs : List Nat → List Nat → Bool) : R2d := fun _ x y Q => match x, y with
  | .int i, .int j => Q (.bl (fi i j))
  | .str a, .str b => Q (.bl (fs a b))
  | _, _ => False
theorem op_dOrd {f : Value → Value → Sem Value} {fi : Int → Int → Bool} {fs : List Nat → List Nat → Bool} (hi : OpR X f (rI0 fun i j => .bl (fi i j)))
    (hs : OpR X f (fun x y H Q => ∃ i j, x = .str i ∧ y = .str j ∧ Q (.bl (fs i.cps.toList j.cps.toList)) H)) : OpD X f (dOrd fi fs) := by
  intro pins s σ H x y v u Q I rx ry h
  obtain ⟨M, a, b, Φ, rm, ra, rb, h, k⟩ := h
  unfold dOrd at h
  cases a <;> cases b <;> first | exact h.elim | skip
  · obtain rfl := rep_int.mp ra
    obtain rfl := rep_int.mp rb
    exact hi pins s σ H _ _ v u Q I rx ry ⟨_, _, rfl, rfl, k _ _ H .refl rm (rep_bl.mpr rfl) h⟩
  · obtain ⟨rfl, _⟩ := rep_str.mp ra
    obtain ⟨rfl, _⟩ := rep_str.mp rb
    exact hs pins s σ H _ _ v u Q I rx ry ⟨_, _, rfl, rfl, k _ _ H .refl rm (rep_bl.mpr rfl) h⟩
@[simp] def dLt : R2d := dOrd (fun i j => decide (i < j)) (fun a b => ltS a b)
@[simp] def dLe : R2d := dOrd (fun i j => decide (i ≤ j)) (fun a b => !ltS b a)
@[simp] def dGt : R2d := dOrd (fun i j => decide (j < i)) (fun a b => ltS b a)
@[simp] def dGe : R2d := dOrd (fun i j => decide (j ≤ i)) (fun a b => !ltS a b)
theorem op_dLt : OpD X (compareOp .Lt) dLt := op_dOrd op_lt op_lt_str
theorem op_dLe : OpD X (compareOp .LtE) dLe := op_dOrd op_le (fun pins s σ H x y v u Q I rx ry ⟨i, j, e1, e2, q⟩ => op_le_str pins s σ H x y v u Q I rx ry ⟨i, j, e1, e2, q⟩)
theorem op_dGt : OpD X (compareOp .Gt) dGt := op_dOrd op_gt (fun pins s σ H x y v u Q I rx ry ⟨i, j, e1, e2, q⟩ => op_gt_str pins s σ H x y v u Q I rx ry ⟨i, j, e1, e2, q⟩)
theorem op_dGe : OpD X (compareOp .GtE) dGe := op_dOrd op_ge (fun pins s σ H x y v u Q I rx ry ⟨i, j, e1, e2, q⟩ => op_ge_str pins s σ H x y v u Q I rx ry ⟨i, j, e1, e2, q⟩)

/-! ### truth, tests -/
@[simp] def truD (M : Mm) (x : D) : Option Bool := match vw M x with
  | .non => some false
  | .bl b => some b
  | .int i => some (i != 0)
  | .str s => some (!s.isEmpty)
  | .tup ds => some (!ds.isEmpty)
  | .lst ds => some (!ds.isEmpty)
  | _ => none
variable {a b : Expr} {ta tb : TD} {rest : List Expr} {pos : Pos}
@[simp] def tdTruth (t : TD) : TTd := fun σ M Q => t σ M fun x M' => ∃ k, truD M' x = some k ∧ Q k M'
theorem isEmpty_reps {K : PySem.W.Frag} {M : Mm} {H : Hp} {ds : List D} {vs : List V} (r : Reps K M H ds vs) : ds.isEmpty = vs.isEmpty := by
  have := r.length
  cases ds <;> cases vs <;> simp_all
theorem dt_truth (ha : DE J X a ta) (he : ∀ whole, isTrue a X.env whole = (do let v ← whole; standAt a.pos; holding [v] (truthy v)) := by intro _; rfl) : DT J X a (tdTruth ta) := by
  refine PT.imp (pt_truth ha he) fun σ H Q ⟨σd, M, Φ, rs, rm, h, k⟩ => ?_
  refine ⟨σd, M, _, rs, rm, h, fun x M1 v H1 e1 rm1 r1 q1 => ?_⟩
  obtain ⟨c, e, q1⟩ := q1
  refine ⟨c, ?_, k c M1 H1 e1 rm1 q1⟩
  have r' := r1.vr rm1
  unfold truD at e
  generalize DL.vw M1 x = x' at r' e
  cases x' with
  | non => obtain rfl := vr_non r'; cases e; rfl
  | bl _ => obtain rfl := vr_bl r'; cases e; rfl
  | int _ => obtain rfl := vr_int r'; cases e; rfl
  | str z =>
    obtain ⟨rfl, hz⟩ := vr_str r'
    cases e
    refine ⟨by simpa [Str.length] using hz, ?_⟩
    cases z with
    | nil => rfl
    | cons c z =>
      simp [Str.length]
      omega
  | tup ds => obtain ⟨p, vs, rfl, tp, q⟩ := rep_tup.mp (vr_tup r'); cases e; exact .inr (.inl ⟨vs, tp.sq, by rw [isEmpty_reps q]⟩)
  | lst ds => obtain ⟨p, vs, rfl, tp, q⟩ := vr_lst.mp r'; cases e; exact .inl ⟨vs, tp, by rw [isEmpty_reps q]⟩
  | _ => cases e
@[simp] def tdAnd (t u : TTd) : TTd := fun σ M Q => t σ M fun c M1 => if c = true then u σ M1 Q else Q false M1
@[simp] def tdOr (t u : TTd) : TTd := fun σ M Q => t σ M fun c M1 => if c = true then Q true M1 else u σ M1 Q
@[simp] def tdNot (t : TTd) : TTd := fun σ M Q => t σ M fun c M1 => Q (!c) M1
theorem dw_and1 {t : TTd} (ha : DT J X a t) : DW J X (.BoolOp .And [a] pos) t := pw_and1 ha
theorem dw_or1 {t : TTd} (ha : DT J X a t) : DW J X (.BoolOp .Or [a] pos) t := pw_or1 ha
theorem dw_and {t u : TTd} (ha : DT J X a t) (hb : DW J X (.BoolOp .And (b :: rest) pos) u) : DW J X (.BoolOp .And (a :: b :: rest) pos) (tdAnd t u) := by
  refine PW.imp (pw_and ha hb) fun σ H Q ⟨σd, M, Φ, rs, rm, h, k⟩ => ?_
  refine ⟨σd, M, _, rs, rm, h, fun c M1 H1 e1 rm1 q1 => ?_⟩
  cases c with
  | true =>
    rw [if_pos rfl] at q1 ⊢
    exact ⟨σd, M1, _, e1.slots rs, rm1, q1, fun c M2 H2 e2 rm2 q2 => k c M2 H2 (e1.trans e2) rm2 q2⟩
  | false =>
    rw [if_neg Bool.false_ne_true] at q1 ⊢
    exact k _ M1 H1 e1 rm1 q1
theorem dw_or {t u : TTd} (ha : DT J X a t) (hb : DW J X (.BoolOp .Or (b :: rest) pos) u) : DW J X (.BoolOp .Or (a :: b :: rest) pos) (tdOr t u) := by
  refine PW.imp (pw_or ha hb) fun σ H Q ⟨σd, M, Φ, rs, rm, h, k⟩ => ?_
  refine ⟨σd, M, _, rs, rm, h, fun c M1 H1 e1 rm1 q1 => ?_⟩
  cases c with
  | false =>
    rw [if_neg Bool.false_ne_true] at q1 ⊢
    exact ⟨σd, M1, _, e1.slots rs, rm1, q1, fun c M2 H2 e2 rm2 q2 => k c M2 H2 (e1.trans e2) rm2 q2⟩
  | true =>
    rw [if_pos rfl] at q1 ⊢
    exact k _ M1 H1 e1 rm1 q1
theorem dt_w {t : TTd} (h : DW J X a t) : DT J X a t := PW.pt h
theorem dt_not {t : TTd} (ha : DT J X a t) : DT J X (.UnaryOp .Not a pos) (tdNot t) := by
  refine PT.imp (pt_not ha) fun σ H Q ⟨σd, M, Φ, rs, rm, h, k⟩ => ?_
  exact ⟨σd, M, _, rs, rm, h, fun c M1 H1 e1 rm1 q1 => k _ M1 H1 e1 rm1 q1⟩
/-- and, or, not of bools as values -/
@[simp] def tdAndV (ta tb : TD) : TD := fun σ M Q => ta σ M fun x M1 => ∃ c, x = .bl c ∧ if c = true then tb σ M1 Q else Q (.bl false) M1
@[simp] def tdOrV (ta tb : TD) : TD := fun σ M Q => ta σ M fun x M1 => ∃ c, x = .bl c ∧ if c = true then Q (.bl true) M1 else tb σ M1 Q
@[simp] def tdNotV (ta : TD) : TD := fun σ M Q => ta σ M fun x M1 => ∃ c, x = .bl c ∧ Q (.bl (!c)) M1
theorem de_one {op} {t : TD} (h : DE J X a t) : DE J X (.BoolOp op [a] pos) t := pe_one h
theorem de_and (ha : DE J X a ta) (hb : DE J X (.BoolOp .And (b :: rest) pos) tb) : DE J X (.BoolOp .And (a :: b :: rest) pos) (tdAndV ta tb) := by
  refine PE.imp (pe_and ha hb) fun σ H Q ⟨σd, M, Φ, rs, rm, h, k⟩ => ?_
  refine ⟨σd, M, _, rs, rm, h, fun x M1 v H1 e1 rm1 r1 q1 => ?_⟩
  obtain ⟨c, rfl, q1⟩ := q1
  obtain rfl := rep_bl.mp r1
  refine ⟨c, rfl, ?_⟩
  cases c with
  | true =>
    rw [if_pos rfl] at q1 ⊢
    exact ⟨σd, M1, _, e1.slots rs, rm1, q1, fun d M2 v H2 e2 rm2 r2 q2 => k d M2 v H2 (e1.trans e2) rm2 r2 q2⟩
  | false =>
    rw [if_neg Bool.false_ne_true] at q1 ⊢
    exact k _ M1 _ H1 e1 rm1 (rep_bl.mpr rfl) q1
theorem de_or (ha : DE J X a ta) (hb : DE J X (.BoolOp .Or (b :: rest) pos) tb) : DE J X (.BoolOp .Or (a :: b :: rest) pos) (tdOrV ta tb) := by
  refine PE.imp (pe_or ha hb) fun σ H Q ⟨σd, M, Φ, rs, rm, h, k⟩ => ?_
  refine ⟨σd, M, _, rs, rm, h, fun x M1 v H1 e1 rm1 r1 q1 => ?_⟩
  obtain ⟨c, rfl, q1⟩ := q1
  obtain rfl := rep_bl.mp r1
  refine ⟨c, rfl, ?_⟩
  cases c with
  | false =>
    rw [if_neg Bool.false_ne_true] at q1 ⊢
    exact ⟨σd, M1, _, e1.slots rs, rm1, q1, fun d M2 v H2 e2 rm2 r2 q2 => k d M2 v H2 (e1.trans e2) rm2 r2 q2⟩
  | true =>
    rw [if_pos rfl] at q1 ⊢
    exact k _ M1 _ H1 e1 rm1 (rep_bl.mpr rfl) q1
theorem de_not (ha : DE J X a ta) : DE J X (.UnaryOp .Not a pos) (tdNotV ta) := by
  refine PE.imp (pe_not ha) fun σ H Q ⟨σd, M, Φ, rs, rm, h, k⟩ => ?_
  refine ⟨σd, M, _, rs, rm, h, fun x M1 v H1 e1 rm1 r1 q1 => ?_⟩
  obtain ⟨c, rfl, q1⟩ := q1
  obtain rfl := rep_bl.mp r1
  exact ⟨c, rfl, k _ M1 _ H1 e1 rm1 (rep_bl.mpr rfl) q1⟩
@[simp] def tdIf (t : TTd) (ta tb : TD) : TD := fun σ M Q => t σ M fun c M1 => if c = true then ta σ M1 Q else tb σ M1 Q
theorem de_if {c : Expr} {t : TTd} (hc : DT J X c t) (ha : DE J X a ta) (hb : DE J X b tb) : DE J X (.IfExp c a b pos) (tdIf t ta tb) := by
  refine PE.imp (pe_ifExp hc ha hb) fun σ H Q ⟨σd, M, Φ, rs, rm, h, k⟩ => ?_
  refine ⟨σd, M, _, rs, rm, h, fun c M1 H1 e1 rm1 q1 => ?_⟩
  cases c with
  | true =>
    rw [if_pos rfl] at q1 ⊢
    exact ⟨σd, M1, _, e1.slots rs, rm1, q1, fun d M2 v H2 e2 rm2 r2 q2 => k d M2 v H2 (e1.trans e2) rm2 r2 q2⟩
  | false =>
    rw [if_neg Bool.false_ne_true] at q1 ⊢
    exact ⟨σd, M1, _, e1.slots rs, rm1, q1, fun d M2 v H2 e2 rm2 r2 q2 => k d M2 v H2 (e1.trans e2) rm2 r2 q2⟩

/-! ### argument lists, displays -/
@[simp] def tdNil : TAd := fun _ M Q => Q [] M
@[simp] def tdCons (ta : TD) (tr : TAd) : TAd := fun σ M Q => ta σ M fun x M1 => tr σ M1 fun xs M2 => Q (x :: xs) M2
variable {e : Expr} {es : List Expr} {te : TD} {t : TAd}
theorem da_nil : DA J X [] tdNil := PA.imp pa_nil fun σ H Q ⟨σd, M, Φ, rs, rm, h, k⟩ => k _ M _ H .refl rm .nil h
theorem da_cons (ha : DE J X e te) (hr : DA J X es t) (hs : starEach (e :: es) X.env = (false, eval e X.env) :: starEach es X.env := by rfl) : DA J X (e :: es) (tdCons te t) := by
  refine PA.imp (pa_cons ha hr hs) fun σ H Q ⟨σd, M, Φ, rs, rm, h, k⟩ => ?_
  refine ⟨σd, M, _, rs, rm, h, fun x M1 v H1 e1 rm1 r1 q1 => ?_⟩
  exact ⟨σd, M1, _, e1.slots rs, rm1, q1, fun xs M2 vs H2 e2 rm2 r2 q2 => k _ M2 _ H2 (e1.trans e2) rm2 (.cons (e2.rep _ _ r1) r2) q2⟩
@[simp] def tdTup (t : TAd) : TD := fun σ M Q => t σ M fun xs M1 => xs.length ≤ sizeLine ∧ Q (.tup xs) M1
/-- a list that stands still; a list that is changed -/
@[simp] def tdLst (t : TAd) : TD := fun σ M Q => t σ M fun xs M1 => xs.length ≤ sizeLine ∧ Q (.lst xs) M1
@[simp] def tdLstM (t : TAd) : TD := fun σ M Q => t σ M fun xs M1 => xs.length ≤ sizeLine ∧ ∀ p, M1 p = none → Q (.ref p) (mu M1 p (.lst xs))
theorem de_tup {x1} (h : DA J X es t) : DE J X (.Tuple es x1 pos) (tdTup t) := by
  refine PE.imp (pe_tup h) fun σ H Q ⟨σd, M, Φ, rs, rm, h, k⟩ => ?_
  refine ⟨σd, M, _, rs, rm, h, fun xs M1 vs H1 e1 rm1 r1 q1 => ?_⟩
  exact ⟨by rw [← r1.length]; exact q1.1, fun p hp => k _ M1 _ _ (e1.trans (.new hp)) (rm1.new hp) (.tupNew rm1 hp r1) q1.2⟩
theorem de_lst (h : DA J X es t) : DE J X (.List es pos) (tdLst t) := by
  refine PE.imp (pe_lst h) fun σ H Q ⟨σd, M, Φ, rs, rm, h, k⟩ => ?_
  refine ⟨σd, M, _, rs, rm, h, fun xs M1 vs H1 e1 rm1 r1 q1 => ?_⟩
  exact ⟨by rw [← r1.length]; exact q1.1, fun p hp => k _ M1 _ _ (e1.trans (.new hp)) (rm1.new hp) (.lstNew rm1 hp r1) q1.2⟩
theorem RepO.lstNew {K : PySem.W.Frag} {M : Mm} {H : Hp} {ds : List D} {vs : List V} {p : Addr} (hp : H p = none) (r : Reps K M H ds vs) : RepO K (mu M p (.lst ds)) (upd H p (.lst vs)) p (.lst ds) :=
  ⟨vs, upd_same, (Ev.newM hp).reps _ _ r⟩
theorem de_lstM (h : DA J X es t) : DE J X (.List es pos) (tdLstM t) := by
  refine PE.imp (pe_lst h) fun σ H Q ⟨σd, M, Φ, rs, rm, h, k⟩ => ?_
  refine ⟨σd, M, _, rs, rm, h, fun xs M1 vs H1 e1 rm1 r1 q1 => ?_⟩
  exact ⟨by rw [← r1.length]; exact q1.1, fun p hp => k _ _ _ _ (e1.trans (.newM hp)) (rm1.newM hp (.lstNew hp r1)) (rep_ref.mpr rfl) (q1.2 p (rm1.free hp))⟩
end
end DL

set_option Elab.async false
set_option linter.all false
set_option maxRecDepth 100000
/-! DL7: items, slices, built-ins, defs, statements. -/
namespace DL
open PySem L2
section
variable {X : Cx} {J : Jc} {a b e : Expr} {ta tb te : TD} {es : List Expr} {t : TAd} {pos : Pos}
/-! ### items -/
theorem atI_rep {K : PySem.W.Frag} {M : Mm} {H : Hp} {ds : List D} {vs : List V} {i : Int} {d : D} (r : Reps K M H ds vs) (h : atI ds i = some d) : ∃ v, atI vs i = some v ∧ Rep K M H d v := by
  unfold atI at h ⊢
  rw [r.length] at h
  cases e : ixN vs.length i with
  | none => rw [e] at h; cases h
  | some j =>
    rw [e] at h
    exact r.get h
def dIx : R2d := fun M x y Q => match vw M x, y with
  | .tup ds, .int i => ∃ d, atI ds i = some d ∧ Q d
  | .lst ds, .int i => ∃ d, atI ds i = some d ∧ Q d
  | .str s, .int i => ∃ c, atI s i = some c ∧ Q (.str [c])
  | .ref p, k => ∃ kvs key d, M p = some (.dic kvs) ∧ keyD k = some key ∧ kvs.lookup key = some d ∧ Q d
  | _, _ => False
/-- an item of a sequence -/
@[simp] def dIxS : R2d := fun M x y Q => match vw M x, y with
  | .tup ds, .int i => ∃ d, atI ds i = some d ∧ Q d
  | .lst ds, .int i => ∃ d, atI ds i = some d ∧ Q d
  | .str s, .int i => ∃ c, atI s i = some c ∧ Q (.str [c])
  | _, _ => False
theorem ix_d : IxR X (lR X.K dIxS) := by
  intro value slice pins s σ H x y v u Q I rx ry h hs
  obtain ⟨M, a, b, Φ, rm, ra, rb, h, k⟩ := h
  have ra' := ra.vr rm
  unfold dIxS at h
  generalize vw M a = a' at ra' h
  cases b <;> (try (cases a' <;> exact h.elim))
  rename_i i
  obtain rfl := rep_int.mp rb
  cases a' with
  | tup ds =>
    obtain ⟨p, vs, rfl, tp, r⟩ := rep_tup.mp (vr_tup ra')
    obtain ⟨d, e, h⟩ := h
    obtain ⟨w, e', r'⟩ := atI_rep r e
    exact ix_tup value slice pins s σ H _ _ v u Q I rx ry ⟨p, vs, i, w, rfl, rfl, tp.sq, e', k _ _ H .refl rm r' h⟩ hs
  | lst ds =>
    obtain ⟨p, vs, rfl, tp, r⟩ := vr_lst.mp ra'
    obtain ⟨d, e, h⟩ := h
    obtain ⟨w, e', r'⟩ := atI_rep r e
    exact ix_list value slice pins s σ H _ _ v u Q I rx ry ⟨p, vs, i, w, rfl, rfl, tp, e', k _ _ H .refl rm r' h⟩ hs
  | str z =>
    obtain ⟨rfl, hz⟩ := vr_str ra'
    obtain ⟨d, e, h⟩ := h
    exact ix_str value slice pins s σ H _ _ v u Q I rx ry ⟨_, i, d, rfl, rfl, by simpa [Str.length] using hz, e, k _ _ H .refl rm (rep_str.mpr ⟨rfl, by simp; decide⟩) h⟩ hs
  | _ => exact h.elim
theorem de_ix (ha : DE J X a ta) (hb : DE J X b tb) (hs : PlainIx b := by intro _ _; rfl) : DE J X (.Subscript a b pos) (tdOp dIxS ta tb) := PE.imp (pe_ix ix_d ha hb hs) fun _ _ _ h => lR_of h

/-! ### slices -/
def cutD {α : Type} (xs : List α) (lo hi : Option Int) : List α := (xs.drop (HT.sIx xs.length 0 lo)).take (HT.sIx xs.length xs.length hi - HT.sIx xs.length 0 lo)
theorem cutD_le {α : Type} (xs : List α) (lo hi : Option Int) : (cutD xs lo hi).length ≤ xs.length := by unfold cutD; simp; omega
abbrev TOd := Sg → Mm → (Option Int → Mm → Prop) → Prop
def lO (K : PySem.W.Frag) (J : Jc) (t : TOd) : TO := fun σ H Q => ∃ σd M Φ, RepS K J M H σd σ ∧ RepM K M H ∧ t σd M Φ ∧ ∀ o M' H', Ev M H M' H' → RepM K M' H' → Φ o M' → Q o H'
abbrev DO (J : Jc) (X : Cx) (e : Option Expr) (t : TOd) : Prop := PO X e (lO X.K J t)
theorem PO.imp {e : Option Expr} {t t' : TO} (h : PO X e t) (i : ∀ σ H Q, t' σ H Q → t σ H Q) : PO X e t' := ⟨fun pins s σ H Q I q => h.run pins s σ H Q I (i σ H Q q)⟩
@[simp] def tdNoPart : TOd := fun _ M Q => Q none M
@[simp] def tdPart (t : TD) : TOd := fun σ M Q => t σ M fun x M1 => ∃ i, x = .int i ∧ Q (some i) M1
theorem do_none : DO J X none tdNoPart := PO.imp po_none fun σ H Q ⟨σd, M, Φ, rs, rm, h, k⟩ => k _ M H .refl rm h
theorem do_some (h : DE J X e te) : DO J X (some e) (tdPart te) := by
  refine PO.imp (po_some h) fun σ H Q ⟨σd, M, Φ, rs, rm, h, k⟩ => ?_
  refine ⟨σd, M, _, rs, rm, h, fun x M1 v H1 e1 rm1 r1 q1 => ?_⟩
  obtain ⟨i, rfl, q1⟩ := q1
  obtain rfl := rep_int.mp r1
  exact ⟨i, rfl, k _ M1 H1 e1 rm1 q1⟩
@[simp] def dSl (M : Mm) (x : D) (lo hi : Option Int) (Q : D → Prop) : Prop := match vw M x with
  | .tup ds => Q (.tup (cutD ds lo hi))
  | .lst ds => Q (.lst (cutD ds lo hi))
  | .str s => Q (.str (cutD s lo hi))
  | _ => False
@[simp] def tdSl (te : TD) (tl th : TOd) : TD := fun σ M Q => te σ M fun x M1 => tl σ M1 fun l M2 => th σ M2 fun u M3 => dSl M3 x l u fun d => Q d M3
def lSl (K : PySem.W.Frag) : V → Option Int → Option Int → Hp → VK → Prop := fun x lo hi H Q => ∃ M d Φ, RepM K M H ∧ Rep K M H d x ∧ dSl M d lo hi Φ ∧ ∀ d v H', Ev M H M H' → RepM K M H' → Rep K M H' d v → Φ d → Q v H'
theorem cutD_reps {K : PySem.W.Frag} {M : Mm} {H : Hp} {ds : List D} {vs : List V} (r : Reps K M H ds vs) (lo hi : Option Int) : Reps K M H (cutD ds lo hi) (cutV vs lo hi) := by
  unfold cutD cutV
  rw [r.length]
  exact (r.drop _).take _
theorem cutD_all {α : Type} {xs : List α} {lo hi : Option Int} (h : HT.sIx xs.length 0 lo = 0 ∧ HT.sIx xs.length xs.length hi = xs.length) : cutD xs lo hi = xs := by
  unfold cutD
  rw [h.1, h.2]
  simp
theorem sl_d : SlR X (lSl X.K) := by
  intro pins s σ H x v vl vu lo hi sl Q I rx hs pl pu h
  obtain ⟨M, a, Φ, rm, ra, h, k⟩ := h
  have ra' := ra.vr rm
  unfold dSl at h
  generalize vw M a = a' at ra' h
  cases a' with
  | tup ds =>
    have rt := vr_tup ra'
    obtain ⟨p, vs, rfl, tp, r⟩ := rep_tup.mp rt
    refine sl_tupA pins s σ H _ v vl vu lo hi sl Q I rx hs pl pu ⟨p, vs, rfl, tp.sq, fun e => ?_, fun _ p hp => ?_⟩
    · rw [← r.length] at e
      dsimp only at h
      rw [cutD_all e] at h
      exact k _ _ H .refl rm rt h
    · exact k _ _ _ (.new hp) (rm.new hp) (.tupNew rm hp (cutD_reps r lo hi)) h
  | lst ds =>
    obtain ⟨p, vs, rfl, tp, r⟩ := vr_lst.mp ra'
    exact sl_list pins s σ H _ v vl vu lo hi sl Q I rx hs pl pu ⟨p, vs, rfl, tp, fun p hp => k _ _ _ (.new hp) (rm.new hp) (.lstNew rm hp (cutD_reps r lo hi)) h⟩
  | str z =>
    obtain ⟨rfl, hz⟩ := vr_str ra'
    exact sl_str pins s σ H _ v vl vu lo hi sl Q I rx hs pl pu ⟨_, rfl, by simpa [Str.length] using hz, k _ _ H .refl rm (rep_str.mpr ⟨by simp [cutS, cutD, Str.length], Nat.le_trans (cutD_le z lo hi) hz⟩) h⟩
  | _ => exact h.elim
theorem de_slice {lo hi : Option Expr} {p2 : Pos} {tl th : TOd} (he : DE J X e te) (hl : DO J X lo tl) (hu : DO J X hi th) : DE J X (.Subscript e (.Slice lo hi none p2) pos) (tdSl te tl th) := by
  refine PE.imp (pe_slice sl_d he hl hu) fun σ H Q ⟨σd, M, Φ, rs, rm, h, k⟩ => ?_
  refine ⟨σd, M, _, rs, rm, h, fun x M1 v H1 e1 rm1 r1 q1 => ?_⟩
  refine ⟨σd, M1, _, e1.slots rs, rm1, q1, fun l M2 H2 e2 rm2 q2 => ?_⟩
  refine ⟨σd, M2, _, e2.slots (e1.slots rs), rm2, q2, fun u M3 H3 e3 rm3 q3 => ?_⟩
  exact ⟨M3, x, _, rm3, (e2.trans e3).rep _ _ r1, q3, fun d v H' e4 rm4 r4 q4 => k d M3 v H' (e1.trans (e2.trans (e3.trans e4))) rm4 r4 q4⟩

/-! ### built-ins -/
abbrev C1d := Mm → List D → (D → Prop) → Prop
def lC (K : PySem.W.Frag) (r : C1d) : List V → Hp → VK → Prop := fun xs H Q => ∃ M ds Φ, RepM K M H ∧ Reps K M H ds xs ∧ r M ds Φ ∧ ∀ d v H', Ev M H M H' → RepM K M H' → Rep K M H' d v → Φ d → Q v H'
abbrev CallD (X : Cx) (f : Value) (r : C1d) : Prop := CallR X f (lC X.K r)
@[simp] def tdCB (r : C1d) (t : TAd) : TD := fun σ M Q => t σ M fun ds M1 => r M1 ds fun d => Q d M1
theorem lC_of {K : PySem.W.Frag} {r : C1d} {σ : L2.St} {H : Hp} {Q : VK} (h : lE K J (tdCB r t) σ H Q) : tCB (lC K r) (lA K J t) σ H Q := by
  obtain ⟨σd, M, Φ, rs, rm, h, k⟩ := h
  refine ⟨σd, M, _, rs, rm, h, fun ds M1 vs H1 e1 rm1 r1 q1 => ?_⟩
  exact ⟨M1, ds, _, rm1, r1, q1, fun d v H' e2 rm2 r2 q2 => k d M1 v H' (e1.trans e2) rm2 r2 q2⟩
theorem de_callB {id : String} {x : Str} {p : Pos} {r : C1d} (hc : CallD X (.builtin id) r) (hg : Gl X x) (hm : X.mg x = none) (hv : bootBuiltins x = some (.builtin id)) (ha : DA J X (e :: es) t) (hn : x ≠ "__name__" := by decide) (hdb : (x == ("__debug__" : Str)) = false := by decide)
    (he : starEach (e :: es) X.env = (false, eval e X.env) :: starEach es X.env := by rfl) (hpl : (backTo pos (starEach es X.env)).any (·.1) = false := by rfl) : DE J X (.Call (.Name x p) (e :: es) [] pos) (tdCB r t) :=
  PE.imp (pe_callB hc hg hm hv ha hn hdb he hpl) fun _ _ _ h => lC_of h
theorem de_callTy {T : String} {x : Str} {p : Pos} {r : C1d} (hc : CallD X (.type T) r) (hg : Gl X x) (hm : X.mg x = none) (hv : bootBuiltins x = some (.type T)) (ha : DA J X (e :: es) t) (hn : x ≠ "__name__" := by decide) (hdb : (x == ("__debug__" : Str)) = false := by decide)
    (he : starEach (e :: es) X.env = (false, eval e X.env) :: starEach es X.env := by rfl) (hpl : (backTo pos (starEach es X.env)).any (·.1) = false := by rfl) : DE J X (.Call (.Name x p) (e :: es) [] pos) (tdCB r t) :=
  PE.imp (pe_callTy hc hg hm hv ha hn hdb he hpl) fun _ _ _ h => lC_of h
@[simp] def lenD (M : Mm) (x : D) : Option Nat := match vw M x with
  | .str s => some s.length
  | .tup ds => some ds.length
  | .lst ds => some ds.length
  | _ => none
@[simp] def dLen : C1d := fun M ds Q => ∃ x n, ds = [x] ∧ lenD M x = some n ∧ Q (.int n)
theorem Reps.one_inv {K : PySem.W.Frag} {M : Mm} {H : Hp} {d : D} {vs : List V} (r : Reps K M H [d] vs) : ∃ v, vs = [v] ∧ Rep K M H d v := by
  obtain ⟨v, vr, rfl, r1, r2⟩ := Reps.inv r
  obtain rfl := Reps.nil_inv r2
  exact ⟨v, rfl, r1⟩
theorem Reps.two_inv {K : PySem.W.Frag} {M : Mm} {H : Hp} {d e : D} {vs : List V} (r : Reps K M H [d, e] vs) : ∃ v u, vs = [v, u] ∧ Rep K M H d v ∧ Rep K M H e u := by
  obtain ⟨v, vr, rfl, r1, r2⟩ := Reps.inv r
  obtain ⟨u, rfl, r3⟩ := r2.one_inv
  exact ⟨v, u, rfl, r1, r3⟩
theorem call_dLen : CallD X (.builtin "len") dLen := by
  intro pins s σ H xs us Q I rx h
  obtain ⟨M, ds, Φ, rm, ra, ⟨x, n, rfl, e, h⟩, k⟩ := h
  obtain ⟨v, rfl, r1⟩ := ra.one_inv
  refine call_len pins s σ H _ us Q I rx ⟨v, n, rfl, ?_, k _ _ H .refl rm (rep_int.mpr rfl) h⟩
  have r' := r1.vr rm
  unfold lenD at e
  generalize vw M x = x' at r' e
  cases x' with
  | str z => obtain ⟨rfl, hz⟩ := vr_str r'; cases e; exact ⟨by simpa [Str.length] using hz, by simp [Str.length]⟩
  | tup ds => obtain ⟨p, vs, rfl, tp, q⟩ := rep_tup.mp (vr_tup r'); cases e; exact .inr ⟨vs, tp.sq, q.length⟩
  | lst ds => obtain ⟨p, vs, rfl, tp, q⟩ := vr_lst.mp r'; cases e; exact .inl ⟨vs, tp, q.length⟩
  | _ => cases e
@[simp] def dIntC : C1d := fun M ds Q => match ds with
  | [.int i] => Q (.int i)
  | [.bl b] => Q (.int (if b then 1 else 0))
  | _ => False
theorem call_dInt : CallD X (.type "int") dIntC := by
  intro pins s σ H xs us Q I rx h
  obtain ⟨M, ds, Φ, rm, ra, h, k⟩ := h
  unfold dIntC at h
  split at h
  · obtain ⟨v, rfl, r1⟩ := ra.one_inv
    obtain rfl := rep_int.mp r1
    exact call_int1 pins s σ H _ us Q I rx (.inl ⟨_, rfl, k _ _ H .refl rm (rep_int.mpr rfl) h⟩)
  · obtain ⟨v, rfl, r1⟩ := ra.one_inv
    obtain rfl := rep_bl.mp r1
    exact call_int1 pins s σ H _ us Q I rx (.inr ⟨_, rfl, k _ _ H .refl rm (rep_int.mpr rfl) h⟩)
  · exact h.elim
/-- all, any, sum of a list of bools, ints -/
@[simp] def blsD : List D → Option (List Bool)
  | [] => some []
  | .bl b :: ds => (blsD ds).map (b :: ·)
  | _ => none
@[simp] def intsD : List D → Option (List Int)
  | [] => some []
  | .int b :: ds => (intsD ds).map (b :: ·)
  | _ => none
theorem blsD_reps {K : PySem.W.Frag} {M : Mm} {H : Hp} : ∀ {ds : List D} {vs : List V} {bs : List Bool}, Reps K M H ds vs → blsD ds = some bs → vs = bs.map V.bl
  | [], vs, bs, r, h => by obtain rfl := Reps.nil_inv r; cases h; rfl
  | .bl b :: ds, vs, bs, r, h => by
    obtain ⟨v, vr, rfl, r1, r2⟩ := Reps.inv r
    obtain rfl := rep_bl.mp r1
    unfold blsD at h
    cases e : blsD ds with
    | none => rw [e] at h; cases h
    | some cs => rw [e] at h; cases h; rw [blsD_reps r2 e]; rfl
  | .non :: ds, vs, bs, r, h => by unfold blsD at h; cases h
  | .int _ :: ds, vs, bs, r, h => by unfold blsD at h; cases h
  | .str _ :: ds, vs, bs, r, h => by unfold blsD at h; cases h
  | .tup _ :: ds, vs, bs, r, h => by unfold blsD at h; cases h
  | .lst _ :: ds, vs, bs, r, h => by unfold blsD at h; cases h
  | .ref _ :: ds, vs, bs, r, h => by unfold blsD at h; cases h
  | .ty _ :: ds, vs, bs, r, h => by unfold blsD at h; cases h
theorem intsD_reps {K : PySem.W.Frag} {M : Mm} {H : Hp} : ∀ {ds : List D} {vs : List V} {bs : List Int}, Reps K M H ds vs → intsD ds = some bs → vs = bs.map V.int
  | [], vs, bs, r, h => by obtain rfl := Reps.nil_inv r; cases h; rfl
  | .int b :: ds, vs, bs, r, h => by
    obtain ⟨v, vr, rfl, r1, r2⟩ := Reps.inv r
    obtain rfl := rep_int.mp r1
    unfold intsD at h
    cases e : intsD ds with
    | none => rw [e] at h; cases h
    | some cs => rw [e] at h; cases h; rw [intsD_reps r2 e]; rfl
  | .non :: ds, vs, bs, r, h => by unfold intsD at h; cases h
  | .bl _ :: ds, vs, bs, r, h => by unfold intsD at h; cases h
  | .str _ :: ds, vs, bs, r, h => by unfold intsD at h; cases h
  | .tup _ :: ds, vs, bs, r, h => by unfold intsD at h; cases h
  | .lst _ :: ds, vs, bs, r, h => by unfold intsD at h; cases h
  | .ref _ :: ds, vs, bs, r, h => by unfold intsD at h; cases h
  | .ty _ :: ds, vs, bs, r, h => by unfold intsD at h; cases h
@[simp] def dAll : C1d := fun M ds Q => ∃ x xs bs, ds = [x] ∧ vw M x = .lst xs ∧ blsD xs = some bs ∧ Q (.bl (bs.all id))
@[simp] def dAny : C1d := fun M ds Q => ∃ x xs bs, ds = [x] ∧ vw M x = .lst xs ∧ blsD xs = some bs ∧ Q (.bl (bs.any id))
@[simp] def dSum : C1d := fun M ds Q => ∃ x xs bs, ds = [x] ∧ vw M x = .lst xs ∧ intsD xs = some bs ∧ Q (.int bs.sum)
theorem call_dAll (hc : X.calm = true) : CallD X (.builtin "all") dAll := by
  intro pins s σ H xs us Q I rx h
  obtain ⟨M, ds, Φ, rm, ra, ⟨x, ys, bs, rfl, e1, e2, h⟩, k⟩ := h
  obtain ⟨v, rfl, r1⟩ := ra.one_inv
  have r' := r1.vr rm
  rw [e1] at r'
  obtain ⟨p, vs, rfl, tp, q⟩ := vr_lst.mp r'
  rw [blsD_reps q e2] at tp
  exact cr_all hc pins s σ H _ us Q I rx ⟨p, bs, rfl, tp, k _ _ H .refl rm (rep_bl.mpr rfl) h⟩
theorem call_dAny (hc : X.calm = true) : CallD X (.builtin "any") dAny := by
  intro pins s σ H xs us Q I rx h
  obtain ⟨M, ds, Φ, rm, ra, ⟨x, ys, bs, rfl, e1, e2, h⟩, k⟩ := h
  obtain ⟨v, rfl, r1⟩ := ra.one_inv
  have r' := r1.vr rm
  rw [e1] at r'
  obtain ⟨p, vs, rfl, tp, q⟩ := vr_lst.mp r'
  rw [blsD_reps q e2] at tp
  exact cr_any hc pins s σ H _ us Q I rx ⟨p, bs, rfl, tp, k _ _ H .refl rm (rep_bl.mpr rfl) h⟩
theorem call_dSum (hc : X.calm = true) : CallD X (.builtin "sum") dSum := by
  intro pins s σ H xs us Q I rx h
  obtain ⟨M, ds, Φ, rm, ra, ⟨x, ys, bs, rfl, e1, e2, h⟩, k⟩ := h
  obtain ⟨v, rfl, r1⟩ := ra.one_inv
  have r' := r1.vr rm
  rw [e1] at r'
  obtain ⟨p, vs, rfl, tp, q⟩ := vr_lst.mp r'
  rw [intsD_reps q e2] at tp
  exact cr_sum hc pins s σ H _ us Q I rx ⟨p, bs, rfl, tp, k _ _ H .refl rm (rep_int.mpr rfl) h⟩
/-- tuple(x), list(x) -/
@[simp] def dTupC : C1d := fun M ds Q => match ds with
  | [x] => match vw M x with
    | .tup xs => Q (.tup xs)
    | .lst xs => Q (.tup xs)
    | _ => False
  | _ => False
@[simp] def dLstC : C1d := fun M ds Q => match ds with
  | [x] => match vw M x with
    | .tup xs => Q (.lst xs)
    | .lst xs => Q (.lst xs)
    | _ => False
  | _ => False
theorem call_dTup : CallD X (.type "tuple") dTupC := by
  intro pins s σ H xs us Q I rx h
  obtain ⟨M, ds, Φ, rm, ra, h, k⟩ := h
  unfold dTupC at h
  split at h
  · rename_i x
    obtain ⟨v, rfl, r1⟩ := ra.one_inv
    have r' := r1.vr rm
    split at h
    · rename_i ys e
      rw [e] at r'
      have rt := vr_tup r'
      obtain ⟨p, vs, rfl, tp, r⟩ := rep_tup.mp rt
      exact call_tuple_of pins s σ H _ us Q I rx ⟨p, vs, rfl, .inr ⟨tp.sq, k _ _ H .refl rm rt h⟩⟩
    · rename_i ys e
      rw [e] at r'
      obtain ⟨p, vs, rfl, tp, r⟩ := vr_lst.mp r'
      exact call_tuple_of pins s σ H _ us Q I rx ⟨p, vs, rfl, .inl ⟨tp, fun p hp => k _ _ _ (.new hp) (rm.new hp) (.tupNew rm hp r) h⟩⟩
    · exact h.elim
  · exact h.elim
theorem call_dLst : CallD X (.type "list") dLstC := by
  intro pins s σ H xs us Q I rx h
  obtain ⟨M, ds, Φ, rm, ra, h, k⟩ := h
  unfold dLstC at h
  split at h
  · rename_i x
    obtain ⟨v, rfl, r1⟩ := ra.one_inv
    have r' := r1.vr rm
    split at h
    · rename_i ys e
      rw [e] at r'
      have rt := vr_tup r'
      obtain ⟨p, vs, rfl, tp, r⟩ := rep_tup.mp rt
      exact call_list_of pins s σ H _ us Q I rx ⟨p, vs, rfl, .inr tp.sq, fun p hp => k _ _ _ (.new hp) (rm.new hp) (.lstNew rm hp r) h⟩
    · rename_i ys e
      rw [e] at r'
      obtain ⟨p, vs, rfl, tp, r⟩ := vr_lst.mp r'
      exact call_list_of pins s σ H _ us Q I rx ⟨p, vs, rfl, .inl tp, fun p hp => k _ _ _ (.new hp) (rm.new hp) (.lstNew rm hp r) h⟩
    · exact h.elim
  · exact h.elim
/-- isinstance of data and one built-in class -/
@[simp] def tyN (M : Mm) : D → Option String
  | .non => some "NoneType"
  | .bl _ => some "bool"
  | .int _ => some "int"
  | .str _ => some "str"
  | .tup _ => some "tuple"
  | .lst _ => some "list"
  | .ref p => match M p with
    | some (.lst _) => some "list"
    | some (.dic _) => some "dict"
    | some (.tupX _) => some "tuple"
    | _ => none
  | .ty _ => none
@[simp] def dIsi : C1d := fun M ds Q => match ds with
  | [x, .ty T] => ∃ n b, tyN M x = some n ∧ kitB n T = some b ∧ Q (.bl b)
  | _ => False
theorem tyN_ok {K : PySem.W.Frag} {M : Mm} {H : Hp} {x : D} {v : V} {n : String} (rm : RepM K M H) (r : Rep K M H x v) (h : tyN M x = some n) : TyX K H v (.type n) := by
  cases x with
  | non => obtain rfl := rep_non.mp r; cases h; exact .base .non
  | bl _ => obtain rfl := rep_bl.mp r; cases h; exact .base (.bl _)
  | int _ => obtain rfl := rep_int.mp r; cases h; exact .base (.int _)
  | str _ => obtain ⟨rfl, _⟩ := rep_str.mp r; cases h; exact .base (.str _)
  | tup _ =>
    obtain ⟨p, vs, rfl, tp, _⟩ := rep_tup.mp r
    cases h
    rcases tp with ⟨_, e | ⟨o, e⟩⟩ | ⟨o, its, n, e, c, _⟩
    · exact .base (.tup e)
    · exact .fTuple e
    · exact .kTuple e c
  | lst _ =>
    obtain ⟨p, vs, rfl, tp, _⟩ := rep_lst.mp r
    cases h
    rcases tp with ⟨_, e | ⟨o, e⟩⟩ | ⟨o, its, n, e, c, _⟩
    · exact .base (.lst e)
    · exact .base (.frz e)
    · exact .kList e c
  | ref p =>
    obtain rfl := rep_ref.mp r
    unfold tyN at h
    dsimp only at h
    cases e : M p with
    | none => rw [e] at h; cases h
    | some o =>
      rw [e] at h
      cases o with
      | lst ds => cases h; obtain ⟨vs, e1, _⟩ := rm p _ e; exact .base (.lst e1)
      | dic ds => cases h; obtain ⟨vs, e1, _⟩ := rm p _ e; exact .base (.dK e1)
      | ins _ _ => cases h
      | hid => cases h
      | dicL _ => cases h
      | gen _ _ => cases h
      | genL _ _ => cases h
      | tupX ds => cases h; obtain ⟨od, vs, e1, _⟩ := rm p _ e; exact .fTuple e1
  | ty _ => cases h
theorem call_dIsi : CallD X (.builtin "isinstance") dIsi := by
  intro pins s σ H xs us Q I rx h
  obtain ⟨M, ds, Φ, rm, ra, h, k⟩ := h
  unfold dIsi at h
  split at h
  · rename_i x T
    obtain ⟨v, u, rfl, r1, r2⟩ := ra.two_inv
    obtain rfl := rep_ty.mp r2
    obtain ⟨n, b, e1, e2, h⟩ := h
    exact call_isi pins s σ H _ us Q I rx ⟨v, .ty T, .type n, .type T, b, rfl, .ty T, tyN_ok rm r1 e1, kit_ty e2, k _ _ H .refl rm (rep_bl.mpr rfl) h⟩
  · exact h.elim
end
end DL

set_option Elab.async false
set_option linter.all false
set_option maxRecDepth 100000
/-! DL8: defs, statements, loops, comprehensions. -/
namespace DL
open PySem L2

/-! ### defs -/
/-- an exception: its class by its name, its fields (where it has a dict of its own) -/
abbrev XD := String → Option (List (Str × D)) → Mm → Prop
abbrev X0 : XD := fun _ _ _ => False
abbrev SpD := List D → Mm → QD → XD → Prop
/-- the class of a name: the module's own, or a built-in one -/
def clN (mg : Str → Option Value) (n : String) : Value := match mg (Str.ofString n) with
  | some v => v
  | none => .type n
def RepX (K : PySem.W.Frag) (M : Mm) (H : Hp) : Option Addr → Option (List (Str × D)) → Prop
  | none, none => True
  | some dx, some fs => M dx = none ∧ ∃ vs, H dx = some (.xd vs) ∧ Fs K M H fs vs
  | _, _ => False
def lSp (K : PySem.W.Frag) (mg : Str → Option Value) (sp : SpD) : Sp := fun vs H Q E => ∃ M ds Φ Ψ, RepM K M H ∧ Reps K M H ds vs ∧ sp ds M Φ Ψ ∧
  (∀ d M' v H', Ev M H M' H' → RepM K M' H' → Rep K M' H' d v → Φ d M' → Q v H') ∧
  (∀ n o fs M' H', Ev M H M' H' → RepM K M' H' → RepX K M' H' o fs → Ψ n fs M' → E (clN mg n) o H')
section
variable {X : Cx} {J : Jc} {e : Expr} {es : List Expr} {te : TD} {t : TAd} {pos p : Pos}
@[simp] def tdCall (sp : SpD) (t : TAd) : TD := fun σ M Q => t σ M fun ds M1 => sp ds M1 Q X0
theorem lCall_of {sp : SpD} {σ : L2.St} {H : Hp} {Q : VK} (h : lE X.K J (tdCall sp t) σ H Q) : tCall (lSp X.K X.mg sp) [] E0 (lA X.K J t) σ H Q := by
  obtain ⟨σd, M, Φ, rs, rm, h, k⟩ := h
  refine ⟨σd, M, _, rs, rm, h, fun ds M1 vs H1 e1 rm1 r1 q1 => ?_⟩
  show lSp X.K X.mg sp (vs ++ []) H1 Q _
  rw [List.append_nil]
  exact ⟨M1, ds, _, _, rm1, r1, q1, fun d M' v H' e2 rm2 r2 q2 => k d M' v H' (e1.trans e2) rm2 r2 q2, fun _ _ _ _ _ _ _ _ z => z.elim⟩
/-- a def of one's own that raises nothing -/
theorem de_call {CX : CXT} {k : Nat} {f : Addr} {fd : FuncData} {ps : List Str} {sp : SpD} {x : Str} (F : FnOk X.prog X.w X.K X.mg X.base CX k f fd ps (lSp X.K X.mg sp)) (hr : Room k X.A) (hg : Gl X x) (hm : X.mg x = some (.ref f)) (hk : PySem.W.keepIn X.K (.ref f) = true) (hb : Binds X.K fd ps [])
    (hx : Passes CX X E0) (ha : DA J X (e :: es) t) (hdb : (x == ("__debug__" : Str)) = false := by decide) (he : starEach (e :: es) X.env = (false, eval e X.env) :: starEach es X.env := by rfl) (hpl : (backTo pos (starEach es X.env)).any (·.1) = false := by rfl) :
    DE J X (.Call (.Name x p) (e :: es) [] pos) (tdCall sp t) :=
  PE.imp (pe_call F hr hg hm hk hb .nil hx ha hdb he hpl) fun _ _ _ h => lCall_of h
/-- the wish of the body at its exceptions -/
def Wish (X : Cx) (J : Jc) (E : XK) (Ψ : XD) : Prop := ∀ n o fs M' H', J.p M' H' → RepM X.K M' H' → RepX X.K M' H' o fs → Ψ n fs M' → E (clN X.mg n) o H'
def tdCallX (sp : SpD) (Ψ : XD) (t : TAd) : TD := fun σ M Q => t σ M fun ds M1 => sp ds M1 Q Ψ
theorem de_callX {CX : CXT} {k : Nat} {f : Addr} {fd : FuncData} {ps : List Str} {sp : SpD} {E : XK} {Ψ : XD} {x : Str} (F : FnOk X.prog X.w X.K X.mg X.base CX k f fd ps (lSp X.K X.mg sp)) (hr : Room k X.A) (hg : Gl X x) (hm : X.mg x = some (.ref f)) (hk : PySem.W.keepIn X.K (.ref f) = true) (hb : Binds X.K fd ps [])
    (hx : Passes CX X E) (hw : Wish X J E Ψ) (ha : DA J X (e :: es) t) (hdb : (x == ("__debug__" : Str)) = false := by decide) (he : starEach (e :: es) X.env = (false, eval e X.env) :: starEach es X.env := by rfl) (hpl : (backTo pos (starEach es X.env)).any (·.1) = false := by rfl) :
    DE J X (.Call (.Name x p) (e :: es) [] pos) (tdCallX sp Ψ t) := by
  refine PE.imp (pe_call F hr hg hm hk hb .nil hx ha hdb he hpl) fun σ H Q h => ?_
  obtain ⟨σd, M, Φ, rs, rm, h, k⟩ := h
  refine ⟨σd, M, _, rs, rm, h, fun ds M1 vs H1 e1 rm1 r1 q1 => ?_⟩
  show lSp X.K X.mg sp (vs ++ []) H1 Q _
  rw [List.append_nil]
  exact ⟨M1, ds, _, _, rm1, r1, q1, fun d M' v H' e2 rm2 r2 q2 => k d M' v H' (e1.trans e2) rm2 r2 q2, fun C o fs M' H' e2 rm2 rx q2 => hw C o fs M' H' (J.cl rs.1.2 (e1.trans e2)) rm2 rx q2⟩
end

/-! ### the body of a def -/
/-- the slots at the entry -/
@[simp] def startD (N : List Str) (ds : List D) : Sg := ds.map some ++ List.replicate (N.length - ds.length) none
/-- behind a call: what the def has made and changed itself stands still -/
def gc (M M' : Mm) : Mm := fun a => match M a with
  | none => none
  | some _ => M' a
@[simp] theorem gc_self {M : Mm} : gc M M = M := by funext a; unfold gc; cases h : M a <;> rfl
theorem gc_new {M M' : Mm} {p : Addr} {o : MO} (h : M p = none) : gc M (mu M' p o) = gc M M' := by
  funext a; unfold gc
  by_cases e : a = p
  · subst e; rw [h]
  · rw [mu_ne e]
theorem gc_old {M M' : Mm} {p : Addr} {o : MO} (h : M p ≠ none) : gc M (mu M' p o) = mu (gc M M') p o := by
  funext a; unfold gc
  by_cases e : a = p
  · subst e
    cases h' : M a with
    | none => exact absurd h' h
    | some u => simp [mu]
  · rw [mu_ne e, mu_ne e]
theorem gc_me {M M' : Mm} {p : Addr} (h : M p = none) : gc M (me M' p) = gc M M' := by
  funext a; unfold gc me
  by_cases e : a = p
  · subst e; rw [h]
  · rw [if_neg e]
theorem Ev.gc {M M' : Mm} {H H' : Hp} (e : Ev M H M' H') : Ev M H (gc M M') H' := fun a o h n => by
  obtain ⟨h1, h2⟩ := e a o h n
  refine ⟨h1, ?_⟩
  unfold DL.gc
  cases q : M a with
  | none => rfl
  | some u => show M' a = some u; rw [h2, q]
theorem gc_qt {M M' : Mm} : ∀ a, Qt (M' a) → Qt (DL.gc M M' a) := fun a h => by
  unfold DL.gc
  cases M a with
  | none => exact .inl rfl
  | some _ => exact h
theorem gc_none {M M' : Mm} : ∀ a, M' a = none → gc M M' a = none := fun a h => by unfold gc; cases M a <;> simp [h]
theorem RepM.gc {K : PySem.W.Frag} {M M' : Mm} {H : Hp} (r : RepM K M' H) : RepM K (gc M M') H := fun q o h => by
  have : M' q = some o := by
    unfold DL.gc at h
    cases e : M q with
    | none => rw [e] at h; cases h
    | some u => rw [e] at h; exact h
  exact (r q o this).less gc_qt
/-- .. what it returns stays open -/
def gcR (M M' : Mm) : D → Mm
  | .ref p => fun a => if a = p then M' a else gc M M' a
  | _ => gc M M'
@[simp] theorem gcR_non {M M' : Mm} : gcR M M' .non = DL.gc M M' := rfl
@[simp] theorem gcR_bl {M M' : Mm} {b : Bool} : gcR M M' (.bl b) = DL.gc M M' := rfl
@[simp] theorem gcR_int {M M' : Mm} {b : Int} : gcR M M' (.int b) = DL.gc M M' := rfl
@[simp] theorem gcR_str {M M' : Mm} {b : List Nat} : gcR M M' (.str b) = DL.gc M M' := rfl
@[simp] theorem gcR_tup {M M' : Mm} {b : List D} : gcR M M' (.tup b) = DL.gc M M' := rfl
@[simp] theorem gcR_lst {M M' : Mm} {b : List D} : gcR M M' (.lst b) = DL.gc M M' := rfl
@[simp] theorem gcR_ty {M M' : Mm} {b : String} : gcR M M' (.ty b) = DL.gc M M' := rfl
theorem gcR_ref {M M' : Mm} {p : Addr} : gcR M M' (.ref p) = fun a => if a = p then M' a else DL.gc M M' a := rfl
/-- a new object, returned -/
theorem gcR_new {M : Mm} {p : Addr} {o : MO} (h : M p = none) : gcR M (mu M p o) (.ref p) = mu M p o := by
  rw [gcR_ref, gc_new h, gc_self]
  funext a
  by_cases e : a = p
  · rw [if_pos e, e]
  · rw [if_neg e, mu_ne e]
theorem gcR_self {M : Mm} {d : D} : gcR M M d = M := by
  cases d with
  | ref p => rw [gcR_ref, gc_self]; funext a; split <;> rfl
  | _ => exact gc_self
theorem Ev.gcR {M M' : Mm} {H H' : Hp} {d : D} (e : Ev M H M' H') : Ev M H (DL.gcR M M' d) H' := fun a o h n => by
  cases d with
  | ref p =>
    obtain ⟨h1, h2⟩ := e.gc a o h n
    refine ⟨h1, ?_⟩
    rw [gcR_ref]
    show (if a = p then M' a else DL.gc M M' a) = M a
    split
    · exact (e a o h n).2
    · exact h2
  | _ => exact e.gc a o h n
theorem gcR_qt {M M' : Mm} {d : D} : ∀ a, Qt (M' a) → Qt (DL.gcR M M' d a) := fun a h => by
  cases d with
  | ref p =>
    rw [gcR_ref]
    show Qt (if a = p then M' a else DL.gc M M' a)
    split
    · exact h
    · exact gc_qt a h
  | _ => exact gc_qt a h
theorem gcR_none {M M' : Mm} {d : D} : ∀ a, M' a = none → DL.gcR M M' d a = none := fun a h => by
  cases d with
  | ref p =>
    rw [gcR_ref]
    show (if a = p then M' a else DL.gc M M' a) = none
    split
    · exact h
    · exact gc_none a h
  | _ => exact gc_none a h
theorem RepM.gcR {K : PySem.W.Frag} {M M' : Mm} {H : Hp} {d : D} (r : RepM K M' H) : RepM K (DL.gcR M M' d) H := fun q o h => by
  have : M' q = some o := by
    cases d with
    | ref p =>
      rw [gcR_ref] at h
      have h : (if q = p then M' q else DL.gc M M' q) = some o := h
      split at h
      · exact h
      · unfold DL.gc at h
        cases e : M q with
        | none => rw [e] at h; cases h
        | some u => rw [e] at h; exact h
    | _ =>
      have h : DL.gc M M' q = some o := h
      unfold DL.gc at h
      cases e : M q with
      | none => rw [e] at h; cases h
      | some u => rw [e] at h; exact h
  exact (r q o this).less gcR_qt
/-- the ends at the entry -/
@[simp] def endD (M : Mm) (Φ : QD) : Ed := ⟨fun _ M' => Φ .non (gc M M'), fun d M' => Φ d (gcR M M' d), fun _ _ => False, fun _ _ => False⟩
theorem body_of {X : Cx} {M : Mm} {H : Hp} {N : List Str} {ds : List D} {vs : List V} {Φ : QD} {Q : VK} {t : TSd} (rm : RepM X.K M H) (r : Reps X.K M H ds vs) (k : ∀ d M' v H', Ev M H M' H' → RepM X.K M' H' → Rep X.K M' H' d v → Φ d M' → Q v H')
    (h : t (endD M Φ) (startD N ds) M) : lS X.K (Jc.of M H) t { nx := fun _ H' => Q .non H', rt := Q } (L2.start N vs) H := by
  refine ⟨startD N ds, M, endD M Φ, ?_, rm, h, fun σd' M' σ' H' e1 _ rm1 q => k .non _ .non H' e1.gc rm1.gc (rep_non.mpr rfl) q, fun d M' v H' e1 rm1 r1 q => k d _ v H' e1.gcR rm1.gcR (Rep.less gcR_qt _ _ r1) q, fun _ _ _ _ _ _ _ q => q, fun _ _ _ _ _ _ _ q => q⟩
  have hl := r.length
  unfold startD L2.start
  exact RepS.start (n := N.length) r (show Ev M H M H from .refl)
section
variable {P : Program} {w : World} {K : PySem.W.Frag} {mg : Str → Option Value} {base : Heap}
/-- THE RULE for a def that raises nothing: its body's derivation, its reading -/
theorem fnD {x qual : Str} {st : Stmt} {f : Addr} {fd : FuncData} {N ps : List Str} {k : Nat} {sp : SpD} (t : TSd) (F : Fun K x qual st f fd) (S : FnScope N ps (defScope st)) (len : ∀ ds M Q E, sp ds M Q E → ds.length = ps.length)
    (hd : ∀ (J : Jc) (cdv : Value) (A : Around) (outer : List Env) (s : Shared) (H : Hp) (E : XK), Room k (A.deeper (PyProof.Rows.envOfC qual (defScope st) s.heap.objs.size f cdv)) → DSs J (cxOf CX0 P w K mg base N qual (defScope st) f cdv A outer s H E).nox (defBody st) t)
    (hq : ∀ ds M Φ Ψ, sp ds M Φ Ψ → t (endD M Φ) (startD N ds) M) : FnOk P w K mg base CX0 (k + 1) f fd ps (lSp K mg sp) := by
  refine F.ok S (fun vs H Q E ⟨M, ds, Φ, Ψ, rm, r, h, _⟩ => ?_) (fun cdv A outer s H vs Q E hr ⟨M, ds, Φ, Ψ, rm, r, h, kq, _⟩ => ?_)
  · rw [← r.length]
    exact len _ _ _ _ h
  · exact ⟨_, hd (Jc.of M H) cdv A outer s H E hr, body_of rm r kq (hq ds M Φ Ψ h)⟩
/-- .. that may raise -/
theorem fnDX {x qual : Str} {st : Stmt} {f : Addr} {fd : FuncData} {N ps : List Str} {k : Nat} {sp : SpD} (t : XD → TSd) (F : Fun K x qual st f fd) (S : FnScope N ps (defScope st)) (len : ∀ ds M Q E, sp ds M Q E → ds.length = ps.length)
    (hd : ∀ (J : Jc) (cdv : Value) (A : Around) (outer : List Env) (s : Shared) (H : Hp) (E : XK) (Ψ : XD), Room k (A.deeper (PyProof.Rows.envOfC qual (defScope st) s.heap.objs.size f cdv)) →
      Wish (cxOf (L2.CX P w) P w K mg base N qual (defScope st) f cdv A outer s H E) J E Ψ → DSs J (cxOf (L2.CX P w) P w K mg base N qual (defScope st) f cdv A outer s H E) (defBody st) (t Ψ))
    (hq : ∀ ds M Φ Ψ, sp ds M Φ Ψ → t Ψ (endD M Φ) (startD N ds) M) : FnOk P w K mg base (L2.CX P w) (k + 1) f fd ps (lSp K mg sp) := by
  refine F.okX S (fun vs H Q E ⟨M, ds, Φ, Ψ, rm, r, h, _⟩ => ?_) (fun cdv A outer s H vs Q E hr ⟨M, ds, Φ, Ψ, rm, r, h, kq, kx⟩ => ?_)
  · rw [← r.length]
    exact len _ _ _ _ h
  · exact ⟨_, hd (Jc.of M H) cdv A outer s H E Ψ hr (fun C o fs M' H' e rm' rx q => kx C o fs M' H' e rm' rx q), body_of rm r kq (hq ds M Φ Ψ h)⟩
end

/-- a def of one's own as it stands among the globals, with its promise -/
def FnG (P : Program) (w : World) (K : PySem.W.Frag) (mg : Str → Option Value) (base : Heap) (k : Nat) (x : Str) (ps : List Str) (sp : SpD) : Prop :=
  ∃ f fd, FnOk P w K mg base CX0 k f fd ps (lSp K mg sp) ∧ mg x = some (.ref f) ∧ PySem.W.keepIn K (.ref f) = true ∧ Binds K fd ps [] ∧ ∀ (s : Shared) (us : List Value), us.length = ps.length → BindsTo s fd ⟨us, []⟩ (ps.zip us)
theorem FnG.mono {P : Program} {w : World} {K : PySem.W.Frag} {mg : Str → Option Value} {base : Heap} {k j : Nat} {x : Str} {ps : List Str} {sp : SpD} (G : FnG P w K mg base k x ps sp) (h : k ≤ j) : FnG P w K mg base j x ps sp :=
  let ⟨f, fd, a, b⟩ := G
  ⟨f, fd, a.mono h, b⟩
/-- .. with a smaller promise -/
theorem FnG.imp {P : Program} {w : World} {K : PySem.W.Frag} {mg : Str → Option Value} {base : Heap} {k : Nat} {x : Str} {ps : List Str} {sp sp' : SpD} (G : FnG P w K mg base k x ps sp) (h : ∀ ds M Q E, sp' ds M Q E → sp ds M Q E) : FnG P w K mg base k x ps sp' :=
  let ⟨f, fd, a, b⟩ := G
  ⟨f, fd, a.imp fun vs H Q E ⟨M, ds, Φ, Ψ, h1, h2, h3, h4⟩ => ⟨M, ds, Φ, Ψ, h1, h2, h ds M Φ Ψ h3, h4⟩, b⟩
theorem de_callG {X : Cx} {J : Jc} {e : Expr} {es : List Expr} {t : TAd} {pos p : Pos} {k j : Nat} {x : Str} {ps : List Str} {sp : SpD} (G : FnG X.prog X.w X.K X.mg X.base k x ps sp) (hr : Room j X.A) (hg : Gl X x) (ha : DA J X (e :: es) t) (hj : k ≤ j := by omega) (hdb : (x == ("__debug__" : Str)) = false := by decide)
    (he : starEach (e :: es) X.env = (false, eval e X.env) :: starEach es X.env := by rfl) (hpl : (backTo pos (starEach es X.env)).any (·.1) = false := by rfl) : DE J X (.Call (.Name x p) (e :: es) [] pos) (tdCall sp t) :=
  let ⟨f, fd, F, hm, hk, hb, _⟩ := G
  de_call F (hr.mono hj) hg hm hk hb pass0 ha hdb he hpl
/-- a module's constant as data -/
def GlD (K : PySem.W.Frag) (mg : Str → Option Value) (x : Str) (d : D) : Prop := ∃ v u, mg x = some u ∧ RelV v u ∧ ∀ M H, RepM K M H → Rep K M H d v
theorem de_gl {X : Cx} {J : Jc} {x : Str} {d : D} {pos : Pos} (G : GlD X.K X.mg x d) (hg : Gl X x) (hd : (x == ("__debug__" : Str)) = false := by decide) : DE J X (.Name x pos) (tdC d) :=
  let ⟨v, u, h1, h2, h3⟩ := G
  de_glob hg h1 h2 h3 hd

/-! ### statements -/
section
variable {X : Cx} {J : Jc} {e : Expr} {es : List Expr} {te : TD} {pos : Pos} {st : Stmt} {rest : List Stmt} {t u : TSd}
@[simp] def tdNext : TSd := fun Δ σ M => Δ.nx σ M
@[simp] def tdSeq (t u : TSd) : TSd := fun Δ σ M => t ⟨u Δ, Δ.rt, Δ.bk, Δ.ct⟩ σ M
/-- code that is never reached -/
@[simp] def tdNever : TSd := fun _ _ _ => False
theorem ds_never : DS J X st tdNever := PS.imp ps_never fun D σ H ⟨_, _, _, _, _, h, _⟩ => h
theorem dss_nil : DSs J X [] tdNext := PSs.imp pss_nil fun D σ H ⟨σd, M, Δ, rs, rm, h, kn, _⟩ => kn σd M σ H .refl rs rm h
theorem dss_cons (h1 : DS J X st t) (h2 : DSs J X rest u) : DSs J X (st :: rest) (tdSeq t u) := by
  refine PSs.imp (pss_cons h1 h2) fun D σ H ⟨σd, M, Δ, rs, rm, h, kn, kr, kb, kc⟩ => ?_
  refine ⟨σd, M, _, rs, rm, h, fun σd1 M1 σ1 H1 e1 rs1 rm1 q1 => ?_, kr, kb, kc⟩
  exact ⟨σd1, M1, Δ, rs1, rm1, q1, fun a b c d e2 => kn a b c d (e1.trans e2), fun a b c d e2 => kr a b c d (e1.trans e2), fun a b c d e2 => kb a b c d (e1.trans e2), fun a b c d e2 => kc a b c d (e1.trans e2)⟩
theorem dss_one (h1 : DS J X st t) : DSs J X [st] t := pss_one h1
@[simp] def tdBreak : TSd := fun Δ σ M => Δ.bk σ M
@[simp] def tdCont : TSd := fun Δ σ M => Δ.ct σ M
theorem ds_pass : DS J X (.Pass pos) tdNext := PS.imp ps_pass fun D σ H ⟨σd, M, Δ, rs, rm, h, kn, _⟩ => kn σd M σ H .refl rs rm h
theorem ds_break : DS J X (.Break pos) tdBreak := PS.imp ps_break fun D σ H ⟨σd, M, Δ, rs, rm, h, _, _, kb, _⟩ => kb σd M σ H .refl rs rm h
theorem ds_continue : DS J X (.Continue pos) tdCont := PS.imp ps_continue fun D σ H ⟨σd, M, Δ, rs, rm, h, _, _, _, kc⟩ => kc σd M σ H .refl rs rm h
@[simp] def tdDrop (te : TD) : TSd := fun Δ σ M => te σ M fun _ M1 => Δ.nx σ M1
theorem ds_expr (he : DE J X e te) (hs : swapsWith e none pos.line X.env = pure false := by rfl) : DS J X (.Expr e pos) (tdDrop te) := by
  refine PS.imp (ps_expr he hs) fun D σ H ⟨σd, M, Δ, rs, rm, h, kn, _⟩ => ?_
  exact ⟨σd, M, _, rs, rm, h, fun d M1 v H1 e1 rm1 r1 q1 => kn σd M1 σ H1 e1 (e1.slots rs) rm1 q1⟩
@[simp] def tdRet (te : TD) : TSd := fun Δ σ M => te σ M Δ.rt
theorem ds_ret (he : DE J X e te) : DS J X (.Return (some e) pos) (tdRet te) := by
  refine PS.imp (ps_ret he) fun D σ H ⟨σd, M, Δ, rs, rm, h, kn, kr, _⟩ => ?_
  exact ⟨σd, M, _, rs, rm, h, fun d M1 v H1 e1 rm1 r1 q1 => kr d M1 v H1 e1 rm1 r1 q1⟩
/-- .. a list that was changed stands still from now on -/
@[simp] def tdRetF (te : TD) : TSd := fun Δ σ M => te σ M fun d M1 => ∃ p ds, d = .ref p ∧ M1 p = some (.lst ds) ∧ Δ.rt (.lst ds) (me M1 p)
theorem Rep.frozen {K : PySem.W.Frag} {M : Mm} {H : Hp} {p : Addr} {ds : List D} {v : V} (rm : RepM K M H) (hp : M p = some (.lst ds)) (r : Rep K M H (.ref p) v) : Rep K (me M p) H (.lst ds) v := by
  obtain rfl := rep_ref.mp r
  obtain ⟨vs, h1, h2⟩ := rm p _ hp
  exact rep_lst.mpr ⟨p, vs, rfl, .inl ⟨.inl (by unfold me; rw [if_pos rfl]), .inl h1⟩, h2.less me_qt⟩
theorem ds_retF (he : DE J X e te) : DS J X (.Return (some e) pos) (tdRetF te) := by
  refine PS.imp (ps_ret he) fun D σ H ⟨σd, M, Δ, rs, rm, h, kn, kr, _⟩ => ?_
  refine ⟨σd, M, _, rs, rm, h, fun d M1 v H1 e1 rm1 r1 q1 => ?_⟩
  obtain ⟨p, ds, rfl, hp, q⟩ := q1
  exact kr _ _ v H1 (e1.trans (.freeze (by rw [hp]; exact fun z => z))) rm1.freeze (.frozen rm1 hp r1) q
@[simp] def tdRetN : TSd := fun Δ _ M => Δ.rt .non M
theorem ds_retN : DS J X (.Return none pos) tdRetN := PS.imp ps_retN fun D σ H ⟨σd, M, Δ, rs, rm, h, _, kr, _⟩ => kr .non M .non H .refl rm (rep_non.mpr rfl) h
@[simp] def tdIfS (c : TTd) (t u : TSd) : TSd := fun Δ σ M => c σ M fun b M1 => if b = true then t Δ σ M1 else u Δ σ M1
theorem ds_if {c : Expr} {a b : List Stmt} {tc : TTd} (hc : DT J X c tc) (ha : DSs J X a t) (hb : DSs J X b u) : DS J X (.If c a b pos) (tdIfS tc t u) := by
  refine PS.imp (ps_if hc ha hb) fun D σ H ⟨σd, M, Δ, rs, rm, h, kn, kr, kb, kc⟩ => ?_
  refine ⟨σd, M, _, rs, rm, h, fun c M1 H1 e1 rm1 q1 => ?_⟩
  have z : ∀ {t : TSd}, t Δ σd M1 → lS X.K J t D σ H1 := fun q => ⟨σd, M1, Δ, e1.slots rs, rm1, q, fun a b c d e2 => kn a b c d (e1.trans e2), fun a b c d e2 => kr a b c d (e1.trans e2), fun a b c d e2 => kb a b c d (e1.trans e2), fun a b c d e2 => kc a b c d (e1.trans e2)⟩
  cases c with
  | true =>
    rw [if_pos rfl] at q1
    exact iteT (z q1)
  | false =>
    rw [if_neg Bool.false_ne_true] at q1
    exact iteF (z q1)

/-! ### targets -/
inductive Tgt where
  | one (i : Nat)
  | many (is : List Nat)
def gNames : List Nat → TGs
  | [] => gNil
  | i :: is => gCons (gName i) (gNames is)
def gT (K : PySem.W.Frag) : Tgt → TG
  | .one i => gName i
  | .many is => gTup K is.length (gNames is)
@[simp] def setMany : List Nat → List D → Sg → Option Sg
  | [], [], σ => some σ
  | i :: is, d :: ds, σ => setMany is ds (σ.set i (some d))
  | _, _, _ => none
@[simp] def setT : Tgt → D → Sg → Option Sg
  | .one i, d, σ => some (σ.set i (some d))
  | .many is, .tup ds, σ => setMany is ds σ
  | _, _, _ => none
def Tgt.ix : Tgt → List Nat
  | .one i => [i]
  | .many is => is
/-- the slots of a target's names forgotten: the same behind the store -/
theorem wipe_set (σ : L2.St) (i : Nat) (x : Option V) : ∀ vs : List Nat, L2.wipe (σ.set i x) vs = if i ∈ vs then L2.wipe σ vs else (L2.wipe σ vs).set i x
  | [] => by simp [L2.wipe]
  | v :: vs => by
    unfold L2.wipe
    rw [wipe_set σ i x vs]
    by_cases h : i ∈ vs
    · simp [h]
    · by_cases hv : i = v
      · subst hv
        simp [h, List.set_set]
      · simp only [h, if_false, List.mem_cons, hv, or_false]
        rw [List.set_comm _ _ hv]
theorem setMany_ok {K : PySem.W.Frag} {J : Jc} {M : Mm} {H : Hp} : ∀ {is : List Nat} {ds : List D} {vs : List V} {σd σd' : Sg} {σ : L2.St} {Q : L2.St → Hp → Prop}, RepS K J M H σd σ → Reps K M H ds vs → setMany is ds σd = some σd' →
    (∀ σ', RepS K J M H σd' σ' → (∀ ws : List Nat, (∀ i ∈ is, i ∈ ws) → L2.wipe σ' ws = L2.wipe σ ws) → Q σ' H) → gNames is vs σ H Q
  | [], [], vs, σd, σd', σ, Q, rs, r, e, k => by
    obtain rfl := Reps.nil_inv r
    cases e
    exact ⟨rfl, k σ rs fun _ _ => rfl⟩
  | i :: is, d :: ds, vs, σd, σd', σ, Q, rs, r, e, k => by
    obtain ⟨v, vr, rfl, r1, r2⟩ := Reps.inv r
    refine ⟨v, vr, rfl, ?_⟩
    refine setMany_ok (rs.set r1 i) r2 e fun σ' rs' hw => k σ' rs' fun ws hi => ?_
    rw [hw ws fun j hj => hi j (List.mem_cons_of_mem _ hj), wipe_set, if_pos (hi i List.mem_cons_self)]
  | [], d :: ds, _, _, _, _, _, _, _, e, _ => by cases e
  | i :: is, [], _, _, _, _, _, _, _, e, _ => by cases e
theorem gT_ok {K : PySem.W.Frag} {J : Jc} {M : Mm} {H : Hp} {tg : Tgt} {d : D} {v : V} {σd σd' : Sg} {σ : L2.St} {Q : L2.St → Hp → Prop} (rs : RepS K J M H σd σ) (r : Rep K M H d v) (e : setT tg d σd = some σd')
    (k : ∀ σ', RepS K J M H σd' σ' → (∀ ws : List Nat, (∀ i ∈ tg.ix, i ∈ ws) → L2.wipe σ' ws = L2.wipe σ ws) → Q σ' H) : gT K tg v σ H Q := by
  cases tg with
  | one i =>
    cases e
    refine k _ (rs.set r i) fun ws hi => ?_
    rw [wipe_set, if_pos (hi i List.mem_cons_self)]
  | many is =>
    cases d with
    | tup ds =>
      obtain ⟨a, vs, rfl, tp, q⟩ := rep_tup.mp r
      refine ⟨a, vs, rfl, tp.sq, ?_, setMany_ok rs q e k⟩
      rw [← q.length]
      have : ∀ (is : List Nat) (ds : List D) (σd σd' : Sg), setMany is ds σd = some σd' → ds.length = is.length := by
        intro is
        induction is with
        | nil => intro ds σd σd' h; cases ds with | nil => rfl | cons _ _ => cases h
        | cons i is ih => intro ds σd σd' h; cases ds with | nil => cases h | cons d ds => simp [ih ds _ _ h]
      exact this is ds σd σd' e
    | _ => cases e
/-- targets that are local names -/
abbrev DTg (X : Cx) (tg : Expr) (g : Tgt) : Prop := PG X tg (gT X.K g)
theorem dtg_name {i : Nat} {x : Str} (hN : X.N.Nodup) (hi : X.N[i]? = some x) (hx : Loc X.env.scope x) (hf : X.fn x = true ∨ X.env.scope.names.lookup x = some .local := by first | exact .inl rfl | exact .inr rfl | assumption) : DTg X (.Name x pos) (.one i) := pg_name hN hi hx hf
theorem dtg_tup {es : List Expr} {k : Nat} {is : List Nat} (hc : X.calm = true) (h : PGs X es (gNames is)) (hn : (assignEach es X.env).length = is.length := by rfl) (hst : (assignEach es X.env).findIdx? (·.1) = none := by rfl) : DTg X (.Tuple es k pos) (.many is) := pg_tup hc h hn hst
@[simp] def tdAsg (te : TD) (g : Tgt) : TSd := fun Δ σ M => te σ M fun d M1 => ∃ σ', setT g d σ = some σ' ∧ Δ.nx σ' M1
theorem ds_asg {tg : Expr} {g : Tgt} (he : DE J X e te) (hg : DTg X tg g) (hs : swapsWithSole [tg] e pos.line X.env = pure false := by rfl) (hw : swappedStores [tg] e X.env = pure none := by rfl)
    (h1 : (assignEach [tg] X.env).map (·.2) = [assign tg X.env] := by rfl) : DS J X (.Assign [tg] e pos) (tdAsg te g) := by
  refine PS.imp (ps_asg he hg hs hw h1) fun D σ H ⟨σd, M, Δ, rs, rm, h, kn, _⟩ => ?_
  refine ⟨σd, M, _, rs, rm, h, fun d M1 v H1 e1 rm1 r1 q1 => ?_⟩
  obtain ⟨σ', e, q⟩ := q1
  exact gT_ok (e1.slots rs) r1 e fun σ2 rs2 _ => kn σ' M1 σ2 H1 e1 rs2 rm1 q
@[simp] def tdSet (i : Nat) (te : TD) : TSd := fun Δ σ M => te σ M fun d M1 => Δ.nx (σ.set i (some d)) M1
theorem ds_set {i : Nat} {x : Str} {pos' : Pos} (hN : X.N.Nodup) (hi : X.N[i]? = some x) (hx : Loc X.env.scope x) (he : DE J X e te) (hs : swapsWith e (some (.Name x pos')) pos.line X.env = pure false := by rfl) (hf : X.fn x = true ∨ X.env.scope.names.lookup x = some .local := by first | exact .inl rfl | exact .inr rfl | assumption) :
    DS J X (.Assign [.Name x pos'] e pos) (tdSet i te) := by
  refine PS.imp (ps_set hN hi hx he hs hf) fun D σ H ⟨σd, M, Δ, rs, rm, h, kn, _⟩ => ?_
  exact ⟨σd, M, _, rs, rm, h, fun d M1 v H1 e1 rm1 r1 q1 => kn _ M1 _ H1 e1 ((e1.slots rs).set r1 i) rm1 q1⟩

/-! ### while -/
def whN (c : TTd) (tb : TSd) : Nat → TSd
  | 0 => fun _ _ _ => False
  | n + 1 => fun Δ σ M => c σ M fun b M1 => if b = true then tb ⟨whN c tb n Δ, Δ.rt, Δ.nx, whN c tb n Δ⟩ σ M1 else Δ.nx σ M1
/-- at most so many rounds -/
def tdWhile (c : TTd) (tb : TSd) : TSd := fun Δ σ M => ∃ n, whN c tb n Δ σ M
theorem ds_while {c : Expr} {body : List Stmt} {tc : TTd} {tb : TSd} (hp : PassesOwn (model X.prog X.w) X.A X.env X.xe) (hc : DT J X c tc) (hb : DSs J X body tb) : DS J X (.While c body [] pos) (tdWhile tc tb) := by
  refine PS.imp (ps_while hp hc hb) fun D σ H ⟨σd, M, Δ, rs, rm, h, kn, kr, kb, kc⟩ => ?_
  obtain ⟨n, h⟩ := h
  refine ⟨fun m σ' H' => ∃ σd' M', Ev M H M' H' ∧ RepS X.K J M' H' σd' σ' ∧ RepM X.K M' H' ∧ whN tc tb m Δ σd' M', ⟨n, σd, M, .refl, rs, rm, h⟩, ?_⟩
  rintro m σ1 H1 ⟨σd1, M1, e1, rs1, rm1, h1⟩
  cases m with
  | zero => exact h1.elim
  | succ m =>
    refine ⟨σd1, M1, _, rs1, rm1, h1, fun b M2 H2 e2 rm2 q2 => ?_⟩
    cases b with
    | true =>
      rw [if_pos rfl] at q2
      refine iteT ⟨fun σ' H' => ∃ σd' M', Ev M H M' H' ∧ RepS X.K J M' H' σd' σ' ∧ RepM X.K M' H' ∧ whN tc tb m Δ σd' M', fun σ' H' q => ⟨m, Nat.lt_succ_self _, q⟩, ?_⟩
      exact ⟨σd1, M2, _, e2.slots rs1, rm2, q2, fun a b c d e3 r3 m3 q3 => ⟨a, b, e1.trans (e2.trans e3), r3, m3, q3⟩, fun a b c d e3 => kr a b c d (e1.trans (e2.trans e3)), fun a b c d e3 => kn a b c d (e1.trans (e2.trans e3)), fun a b c d e3 r3 m3 q3 => ⟨a, b, e1.trans (e2.trans e3), r3, m3, q3⟩⟩
    | false =>
      rw [if_neg Bool.false_ne_true] at q2
      refine iteF ?_
      exact kn σd1 M2 σ1 H2 (e1.trans e2) (e2.slots rs1) rm2 q2
end
end DL

set_option Elab.async false
set_option linter.all false
set_option maxRecDepth 100000
/-! DL9: what is walked: for, comprehensions. -/
namespace DL
open PySem L2
/-- an iterator over known data; stay: what the walked object asks of the mutable objects at each turn -/
def ItD (K : PySem.W.Frag) (It : It) (ds : List D) (stay : Mm → Prop) (M1 : Mm) (H1 : Hp) : Prop := ∀ i M H, Ev M1 H1 M H → RepM K M H → stay M →
  (ds.length ≤ i → It.stop i H) ∧ ∀ d, ds[i]? = some d → It.go i H ∧ ∀ x H', It.yld i H x H' → Ev M H M H' ∧ RepM K M H' ∧ Rep K M H' d x
abbrev TID := Sg → Mm → (List D → (Mm → Prop) → Mm → Prop) → Prop
def lI (K : PySem.W.Frag) (J : Jc) (t : TID) : TI := fun σ H R => ∃ σd M Φ, RepS K J M H σd σ ∧ RepM K M H ∧ t σd M Φ ∧ ∀ ds stay M' It H', Ev M H M' H' → RepM K M' H' → ItD K It ds stay M' H' → Φ ds stay M' → R It H'
abbrev DI (J : Jc) (X : Cx) (tg e : Expr) (t : TID) : Prop := PI X tg e (lI X.K J t)
abbrev Sta : Mm → Prop := fun _ => True
section
variable {X : Cx} {J : Jc} {tg e : Expr} {te : TD} {pos p : Pos}
theorem itD_lst {K : PySem.W.Frag} {M1 : Mm} {H1 : Hp} {a : Addr} {ds : List D} {stay : Mm → Prop} (h : ∀ M H, Ev M1 H1 M H → RepM K M H → stay M → ∃ vs, SqL K H a vs ∧ Reps K M H ds vs) : ItD K (Itl K a) ds stay M1 H1 := by
  intro i M H e rm st
  obtain ⟨vs, sq, rs⟩ := h M H e rm st
  refine ⟨fun hl => ⟨vs, sq, by rw [← rs.length]; exact hl⟩, fun d hd => ?_⟩
  obtain ⟨v, hv, r⟩ := rs.get hd
  refine ⟨⟨vs, v, sq, hv⟩, fun x H' ⟨e1, hx⟩ => ?_⟩
  subst e1
  have := hx vs sq
  rw [hv] at this
  cases this
  exact ⟨.refl, rm, r⟩
theorem itD_tup {K : PySem.W.Frag} {M1 : Mm} {H1 : Hp} {a : Addr} {ds : List D} {stay : Mm → Prop} (h : ∀ M H, Ev M1 H1 M H → RepM K M H → stay M → ∃ vs, SqT K H a vs ∧ Reps K M H ds vs) : ItD K (Itt K a) ds stay M1 H1 := by
  intro i M H e rm st
  obtain ⟨vs, sq, rs⟩ := h M H e rm st
  refine ⟨fun hl => ⟨vs, sq, by rw [← rs.length]; exact hl⟩, fun d hd => ?_⟩
  obtain ⟨v, hv, r⟩ := rs.get hd
  refine ⟨⟨vs, v, sq, hv⟩, fun x H' ⟨e1, hx⟩ => ?_⟩
  subst e1
  have := hx vs sq
  rw [hv] at this
  cases this
  exact ⟨.refl, rm, r⟩
theorem itD_str {K : PySem.W.Frag} {M1 : Mm} {H1 : Hp} {s : List Nat} : ItD K (Its ⟨s.toArray⟩) (s.map fun c => .str [c]) Sta M1 H1 := by
  intro i M H e rm st
  refine ⟨fun hl => show s.toArray.size ≤ i by simpa using hl, fun d hd => ?_⟩
  rw [List.getElem?_map] at hd
  cases hc : s[i]? with
  | none => rw [hc] at hd; cases hd
  | some c =>
    rw [hc] at hd
    cases hd
    have hi : i < s.length := (List.getElem?_eq_some_iff.mp hc).1
    refine ⟨show i < s.toArray.size by simpa using hi, fun x H' ⟨e1, c', h1, h2⟩ => ?_⟩
    subst e1
    subst h2
    have : c' = c := by
      have h3 : s.toArray[i]? = some c' := h1
      rw [List.getElem?_toArray, hc] at h3
      exact (Option.some.inj h3).symm
    subst this
    exact ⟨.refl, rm, rep_str.mpr ⟨rfl, by simp; decide⟩⟩
def rngD (lo : Int) (n : Nat) : List D := (List.range n).map fun (i : Nat) => .int (lo + (i : Int))
theorem itD_range {K : PySem.W.Frag} {M1 : Mm} {H1 : Hp} {lo : Int} {n : Nat} : ItD K (Itr lo n) (rngD lo n) Sta M1 H1 := by
  intro i M H e rm st
  unfold rngD
  refine ⟨fun hl => show n ≤ i by simpa using hl, fun d hd => ?_⟩
  rw [List.getElem?_map] at hd
  by_cases hi : i < n
  · rw [List.getElem?_range hi] at hd
    cases hd
    refine ⟨hi, fun x H' ⟨e1, h1⟩ => ?_⟩
    subst e1
    subst h1
    exact ⟨.refl, rm, rep_int.mpr rfl⟩
  · rw [List.getElem?_eq_none (by simpa using hi)] at hd
    cases hd
/-- a sequence: its items -/
@[simp] def tdSeqI (te : TD) : TID := fun σ M Φ => te σ M fun x M1 => match x with
  | .tup ds => Φ ds Sta M1
  | .lst ds => Φ ds Sta M1
  | .str s => Φ (s.map fun c => .str [c]) Sta M1
  | .ref p => ∃ ds, M1 p = some (.lst ds) ∧ Φ ds (fun M => M p = some (.lst ds)) M1
  | _ => False
theorem di_seq (he : DE J X e te) : DI J X tg e (tdSeqI te) := by
  refine ⟨fun pins s σ H R I h => ?_⟩
  obtain ⟨σd, M, Φ, rs, rm, h, k⟩ := h
  refine thn (he.run pins s σ H (fun v H1 => ∃ x M1, Ev M H M1 H1 ∧ RepM X.K M1 H1 ∧ Rep X.K M1 H1 x v ∧ (match x with
    | .tup ds => Φ ds Sta M1
    | .lst ds => Φ ds Sta M1
    | .str s => Φ (s.map fun c => .str [c]) Sta M1
    | .ref p => ∃ ds, M1 p = some (.lst ds) ∧ Φ ds (fun M => M p = some (.lst ds)) M1
    | _ => False)) I ⟨σd, M, _, rs, rm, h, fun d M' v H' e1 rm1 r1 q1 => ⟨d, M', e1, rm1, r1, q1⟩⟩) fun v s1 ⟨xv, H1, I1, r0, x, M1, e1, rm1, r1, q1⟩ => ?_
  have fresh : ∀ b ∈ [s1.heap.objs.size], FpOk X pins H1 b := fun b hb => by
    have e : b = s1.heap.objs.size := by simpa using hb
    subst e
    exact I1.fpOk (Nat.le_refl _) (I1.hok.fresh (Nat.le_refl _))
  have goL : ∀ {a : Addr} {vs : List V} {ds : List D} {stay : Mm → Prop}, SqL X.K H1 a vs → (∀ M H, Ev M1 H1 M H → RepM X.K M H → stay M → ∃ vs, SqL X.K H a vs ∧ Reps X.K M H ds vs) → Φ ds stay M1 →
      wpAny (model X.prog X.w) X.A (pyIter (.ref a)) (PIE X pins σ tg R) X.xe s1 := by
    intro a vs ds stay sq hq q
    obtain ⟨its, rv, pl, hz⟩ := I1.list sq
    refine wpAny_pyIter_list pl.isList ?_
    exact ⟨s1.heap.objs.size, [s1.heap.objs.size], _, _, H1, rfl, I1.kept (t' := s1.toks) fun b o e => Heap.get?_push_of_some _ e, turn_list a _, ⟨_, Heap.get?_push_size _ rfl, rfl, rfl⟩, fresh, k ds stay M1 _ H1 e1 rm1 (itD_lst hq) q⟩
  cases x with
  | tup ds =>
    obtain ⟨a, vs, rfl, tp, rr⟩ := rep_tup.mp r1
    cases r0
    obtain ⟨its, rv, pl, hz⟩ := I1.tuple tp.sq
    refine wpAny_pyIter_tuple (show s1.heap.IsTuple a its.toArray from pl) ?_
    exact ⟨s1.heap.objs.size, [s1.heap.objs.size], _, _, H1, rfl, I1.kept (t' := s1.toks) fun b o e => Heap.get?_push_of_some _ e, turn_tuple a _, ⟨_, Heap.get?_push_size _ rfl, rfl, rfl⟩, fresh, k ds Sta M1 _ H1 e1 rm1 (itD_tup fun M H e rm _ => ⟨vs, (e.tup tp).sq, e.reps _ _ rr⟩) q1⟩
  | lst ds =>
    obtain ⟨a, vs, rfl, tp, rr⟩ := rep_lst.mp r1
    cases r0
    exact goL tp.sq (fun M H e rm _ => ⟨vs, (e.lst tp).sq, e.reps _ _ rr⟩) q1
  | ref p =>
    obtain rfl := rep_ref.mp r1
    cases r0
    obtain ⟨ds, hp, q1⟩ := q1
    obtain ⟨vs, h1, h2⟩ := rm1 p _ hp
    refine goL (SqL.of h1) (fun M H e rm st => ?_) q1
    obtain ⟨us, h3, h4⟩ := rm p _ st
    exact ⟨us, SqL.of h3, h4⟩
  | str z =>
    obtain ⟨rfl, hz⟩ := rep_str.mp r1
    obtain ⟨t, rfl⟩ := r0
    have q2 := k _ Sta M1 _ H1 e1 rm1 itD_str q1
    cases ha : (⟨z.toArray⟩ : Str).cps.all (· < 128)
    · exact wpAny_pyIter_wide ha (pi_one (tk := s1.toks) I1 _ (turn_str _ _ t "str_iterator" (.inr rfl)) ⟨_, Heap.get?_push_size _ rfl, rfl, rfl⟩ q2)
    · exact wpAny_pyIter_ascii ha (pi_one (tk := s1.toks) I1 _ (turn_str _ _ t "str_ascii_iterator" (.inl rfl)) ⟨_, Heap.get?_push_size _ rfl, rfl, rfl⟩ q2)
  | _ => exact q1.elim
/-- range(n), range(a, b) -/
@[simp] def tdRng1 (ta : TAd) : TID := fun σ M Φ => ta σ M fun ds M1 => ∃ j : Int, ds = [.int j] ∧ (-(2 ^ 62) ≤ j ∧ j < 2 ^ 62) ∧ Φ (rngD 0 j.toNat) Sta M1
@[simp] def tdRng2 (ta : TAd) : TID := fun σ M Φ => ta σ M fun ds M1 => ∃ i j : Int, ds = [.int i, .int j] ∧ (-(2 ^ 62) ≤ i ∧ i < 2 ^ 62 ∧ -(2 ^ 62) ≤ j ∧ j < 2 ^ 62) ∧ Φ (rngD i (j - i).toNat) Sta M1
theorem di_range1 {a : Expr} {ta : TAd} (hg : Gl X "range") (hm : X.mg "range" = none) (ha : DA J X [a] ta) (hs : starEach [a] X.env = [(false, eval a X.env)] := by rfl) : DI J X tg (.Call (.Name "range" p) [a] [] pos) (tdRng1 ta) := by
  refine ⟨fun pins s σ H R I h => (pi_range1 hg hm ha hs).run pins s σ H R I ?_⟩
  obtain ⟨σd, M, Φ, rs, rm, h, k⟩ := h
  refine ⟨σd, M, _, rs, rm, h, fun ds M1 vs H1 e1 rm1 r1 q1 => ?_⟩
  obtain ⟨j, rfl, ⟨h1, h2⟩, q⟩ := q1
  obtain ⟨v, rfl, rv⟩ := r1.one_inv
  obtain rfl := rep_int.mp rv
  exact ⟨j, rfl, h1, h2, k _ Sta M1 _ H1 e1 rm1 itD_range q⟩
theorem di_range2 {a b : Expr} {ta : TAd} (hg : Gl X "range") (hm : X.mg "range" = none) (ha : DA J X [a, b] ta) (hs : starEach [a, b] X.env = [(false, eval a X.env), (false, eval b X.env)] := by rfl) (hs2 : starEach [b] X.env = [(false, eval b X.env)] := by rfl) : DI J X tg (.Call (.Name "range" p) [a, b] [] pos) (tdRng2 ta) := by
  refine ⟨fun pins s σ H R I h => (pi_range2 hg hm ha hs hs2).run pins s σ H R I ?_⟩
  obtain ⟨σd, M, Φ, rs, rm, h, k⟩ := h
  refine ⟨σd, M, _, rs, rm, h, fun ds M1 vs H1 e1 rm1 r1 q1 => ?_⟩
  obtain ⟨i, j, rfl, hb, q⟩ := q1
  obtain ⟨v, u, rfl, rv, ru⟩ := r1.two_inv
  obtain rfl := rep_int.mp rv
  obtain rfl := rep_int.mp ru
  exact ⟨i, j, rfl, hb, k _ Sta M1 _ H1 e1 rm1 itD_range q⟩
/-- zip(x, y) of two lists or of two tuples that stand still -/
def zipD (xs ys : List D) : List D := (xs.zip ys).map fun p => .tup [p.1, p.2]
@[simp] def tdZip (ta : TAd) : TID := fun σ M Φ => ta σ M fun ds M1 => match ds with
  | [.tup xs, .tup ys] => Φ (zipD xs ys) Sta M1
  | [.lst xs, .lst ys] => Φ (zipD xs ys) Sta M1
  | _ => False
theorem zipD_get {xs ys : List D} {i : Nat} {d : D} (h : (zipD xs ys)[i]? = some d) : ∃ x y, xs[i]? = some x ∧ ys[i]? = some y ∧ d = .tup [x, y] := by
  unfold zipD at h
  rw [List.getElem?_map] at h
  cases e : (xs.zip ys)[i]? with
  | none => rw [e] at h; cases h
  | some p =>
    rw [e] at h
    cases h
    rw [List.getElem?_zip_eq_some] at e
    exact ⟨_, _, e.1, e.2, rfl⟩
theorem di_zip {a b : Expr} {ta : TAd} {tpos : Pos} {elts : List Expr} {kk : Nat} (hg : Gl X "zip") (hm : X.mg "zip" = none) (ha : DA J X [a, b] ta)
    (hs : starEach [a, b] X.env = (false, eval a X.env) :: starEach [b] X.env := by rfl) (hpl : (backTo pos (starEach [b] X.env)).any (·.1) = false := by rfl) : DI J X (.Tuple elts kk tpos) (.Call (.Name "zip" p) [a, b] [] pos) (tdZip ta) := by
  refine ⟨fun pins s σ H R I h => (RZ.pi_zipA hg hm ha hs hpl).run pins s σ H R I ?_⟩
  obtain ⟨σd, M, Φ, rs, rm, h, k⟩ := h
  refine ⟨σd, M, _, rs, rm, h, fun ds M1 vs H1 e1 rm1 r1 q1 => ?_⟩
  split at q1
  · rename_i xs ys
    obtain ⟨v, u, rfl, rv, ru⟩ := r1.two_inv
    obtain ⟨a1, us, rfl, tp, rr⟩ := rep_tup.mp rv
    obtain ⟨a2, ws, rfl, tp2, rr2⟩ := rep_tup.mp ru
    refine ⟨a1, a2, us, ws, rfl, .inr ⟨tp.sq, tp2.sq, k _ Sta M1 _ H1 e1 rm1 ?_ q1⟩⟩
    intro i M2 H2 e2 rm2 _
    have t1 := (e2.tup tp).sq
    have t2 := (e2.tup tp2).sq
    refine ⟨fun hl => ⟨us, ws, t1, t2, ?_⟩, fun d hd => ?_⟩
    · unfold zipD at hl
      rw [List.length_map, List.length_zip, rr.length, rr2.length] at hl
      omega
    · obtain ⟨x, y, g1, g2, rfl⟩ := zipD_get hd
      obtain ⟨xv, g3, r3⟩ := (e2.reps _ _ rr).get g1
      obtain ⟨yv, g4, r4⟩ := (e2.reps _ _ rr2).get g2
      refine ⟨⟨us, ws, xv, yv, t1, t2, g3, g4⟩, fun z H3 ⟨T, x', y', ez, hT, eH, z1, z2⟩ => ?_⟩
      subst ez
      subst eH
      have e3 := z1 us t1
      have e4 := z2 ws t2
      rw [g3] at e3
      rw [g4] at e4
      cases e3
      cases e4
      exact ⟨.new hT, rm2.new hT, .tupNew rm2 hT (.cons r3 (.one r4))⟩
  · rename_i xs ys
    obtain ⟨v, u, rfl, rv, ru⟩ := r1.two_inv
    obtain ⟨a1, us, rfl, tp, rr⟩ := rep_lst.mp rv
    obtain ⟨a2, ws, rfl, tp2, rr2⟩ := rep_lst.mp ru
    refine ⟨a1, a2, us, ws, rfl, .inl ⟨tp.sq, tp2.sq, k _ Sta M1 _ H1 e1 rm1 ?_ q1⟩⟩
    intro i M2 H2 e2 rm2 _
    have t1 := (e2.lst tp).sq
    have t2 := (e2.lst tp2).sq
    refine ⟨fun hl => ⟨us, ws, t1, t2, ?_⟩, fun d hd => ?_⟩
    · unfold zipD at hl
      rw [List.length_map, List.length_zip, rr.length, rr2.length] at hl
      omega
    · obtain ⟨x, y, g1, g2, rfl⟩ := zipD_get hd
      obtain ⟨xv, g3, r3⟩ := (e2.reps _ _ rr).get g1
      obtain ⟨yv, g4, r4⟩ := (e2.reps _ _ rr2).get g2
      refine ⟨⟨us, ws, xv, yv, t1, t2, g3, g4⟩, fun z H3 ⟨T, x', y', ez, hT, eH, z1, z2⟩ => ?_⟩
      subst ez
      subst eH
      have e3 := z1 us t1
      have e4 := z2 ws t2
      rw [g3] at e3
      rw [g4] at e4
      cases e3
      cases e4
      exact ⟨.new hT, rm2.new hT, .tupNew rm2 hT (.cons r3 (.one r4))⟩
  · exact q1.elim

/-! ### for -/
def forD (g : Tgt) (tb : TSd) (stay : Mm → Prop) : List D → TSd
  | [] => fun Δ σ M => stay M ∧ Δ.nx σ M
  | d :: ds => fun Δ σ M => stay M ∧ ∃ σ', setT g d σ = some σ' ∧ tb ⟨forD g tb stay ds Δ, Δ.rt, Δ.nx, forD g tb stay ds Δ⟩ σ' M
@[simp] def tdFor (ti : TID) (g : Tgt) (tb : TSd) : TSd := fun Δ σ M => ti σ M fun ds stay M1 => forD g tb stay ds Δ σ M1
theorem ds_for {body : List Stmt} {ti : TID} {g : Tgt} {tb : TSd} (hp : PassesOwn (model X.prog X.w) X.A X.env X.xe) (hc : X.calm = true) (hi : DI J X tg e ti) (hg : DTg X tg g) (hb : DSs J X body tb)
    (hs : ∀ x, foldedSetIterable e X.env x = pure x := by intro _; rfl) : DS J X (.For tg e body [] pos) (tdFor ti g tb) := by
  refine PS.imp (ps_for hp hc hi hg hb hs) fun D σ H ⟨σd, M, Δ, rs, rm, h, kn, kr, kb, kc⟩ => ?_
  refine ⟨σd, M, _, rs, rm, h, fun ds stay M1 It H1 e1 rm1 it q1 => ?_⟩
  refine ⟨fun i m σ' H' => m = ds.length - i ∧ i ≤ ds.length ∧ ∃ σd' M', Ev M1 H1 M' H' ∧ RepS X.K J M' H' σd' σ' ∧ RepM X.K M' H' ∧ forD g tb stay (ds.drop i) Δ σd' M', ⟨_, rfl, Nat.zero_le _, σd, M1, .refl, e1.slots rs, rm1, by simpa using q1⟩, ?_⟩
  rintro i m σ2 H2 ⟨rfl, hi, σd2, M2, e2, rs2, rm2, q2⟩
  by_cases hl : i < ds.length
  · rw [List.drop_eq_getElem_cons hl] at q2
    obtain ⟨st, σd3, es, q2⟩ := q2
    obtain ⟨_, it2⟩ := it i M2 H2 e2 rm2 st
    obtain ⟨go, yl⟩ := it2 _ (List.getElem?_eq_getElem hl)
    refine .inr ⟨go, fun σ' H' => ∃ σd' M', Ev M1 H1 M' H' ∧ RepS X.K J M' H' σd' σ' ∧ RepM X.K M' H' ∧ forD g tb stay (ds.drop (i + 1)) Δ σd' M', fun σ' H' q => ⟨ds.length - (i + 1), by omega, rfl, hl, q⟩, fun x H3 y => ?_⟩
    obtain ⟨e3, rm3, r3⟩ := yl x H3 y
    refine gT_ok (e3.slots rs2) r3 es fun σ4 rs4 _ => ?_
    exact ⟨σd3, M2, _, rs4, rm3, q2, fun a b c d e4 r4 m4 q4 => ⟨a, b, e2.trans (e3.trans e4), r4, m4, q4⟩, fun a b c d e4 => kr a b c d (e1.trans (e2.trans (e3.trans e4))), fun a b c d e4 => kn a b c d (e1.trans (e2.trans (e3.trans e4))), fun a b c d e4 r4 m4 q4 => ⟨a, b, e2.trans (e3.trans e4), r4, m4, q4⟩⟩
  · rw [List.drop_eq_nil_of_le (by omega)] at q2
    obtain ⟨st, q2⟩ := q2
    obtain ⟨stop, _⟩ := it i M2 H2 e2 rm2 st
    exact .inl ⟨stop (by omega), kn σd2 M2 σ2 H2 (e1.trans e2) rs2 rm2 q2⟩
end
end DL

set_option Elab.async false
set_option linter.all false
set_option maxRecDepth 100000
/-! DL10: comprehensions; methods; stores. -/
namespace DL
open PySem L2
@[simp] def wipeD (σ : Sg) : List Nat → Sg
  | [] => σ
  | v :: vs => (wipeD σ vs).set v none
theorem wipeD_ok {K : PySem.W.Frag} {J : Jc} {M : Mm} {H : Hp} {σd : Sg} {σ : L2.St} (h : RepS K J M H σd σ) : ∀ vs, RepS K J M H (wipeD σd vs) (L2.wipe σ vs)
  | [] => h
  | v :: vs => (wipeD_ok h vs).unset v
def lcD (g : Tgt) (tt : TTd) (te : TD) (stay : Mm → Prop) (σw : Sg) : List D → List D → Mm → (List D → Mm → Prop) → Prop
  | [], acc, M, Φ => stay M ∧ Φ acc M
  | d :: ds, acc, M, Φ => stay M ∧ ∃ σ', setT g d σw = some σ' ∧ tt σ' M fun b M1 => if b = true then te σ' M1 fun y M2 => acc.length < sizeLine ∧ lcD g tt te stay σw ds (acc ++ [y]) M2 Φ else lcD g tt te stay σw ds acc M1 Φ
/-- the list as it comes out: still, or one that is changed later -/
def lcEnd (b : Bool) (p : Addr) (Q : D → Mm → Prop) (acc : List D) (M : Mm) : Prop := if b = true then Q (.ref p) (mu M p (.lst acc)) else Q (.lst acc) (me M p)
@[simp] theorem lcEnd_f {p : Addr} {Q : D → Mm → Prop} : lcEnd false p Q = fun acc M => Q (.lst acc) (me M p) := rfl
@[simp] theorem lcEnd_t {p : Addr} {Q : D → Mm → Prop} : lcEnd true p Q = fun acc M => Q (.ref p) (mu M p (.lst acc)) := rfl
@[simp] def tdLcB (b : Bool) (ti : TID) (g : Tgt) (tt : TTd) (te : TD) (vs : List Nat) : TD := fun σ M Q => ti σ M fun ds stay M1 => ∀ p, M1 p = none → lcD g tt te stay (wipeD σ vs) ds [] (mu M1 p .hid) (lcEnd b p Q)
abbrev tdLc := tdLcB false
abbrev tdLcM := tdLcB true
theorem mu_id {M : Mm} {p : Addr} {o : MO} (h : M p = some o) : mu M p o = M := by
  funext q; unfold mu; split
  · rename_i e; rw [e, h]
  · rfl
section
variable {X : Cx} {J : Jc} {tg e elt : Expr} {te : TD} {pos p : Pos} {K : PySem.W.Frag}
abbrev DTs (J : Jc) (X : Cx) (ifs : List Expr) (t : TTd) : Prop := PTs X ifs (lT X.K J t)
@[simp] def tdYes : TTd := fun _ M Q => Q true M
theorem dts_nil : DTs J X [] tdYes := ⟨fun pins s σ H Q I ⟨σd, M, Φ, rs, rm, h, k⟩ => pts_nil.run pins s σ H Q I (k true M H .refl rm h)⟩
theorem dts_one {c : Expr} {t : TTd} (h : DT J X c t) : DTs J X [c] t := pts_one h
/-- the reading of a comprehension, from the one over data -/
theorem lc_of {J : Jc} {mb : Bool} {ti : TID} {g : Tgt} {tt : TTd} {te : TD} {vs : List Nat} (hv : ∀ i ∈ g.ix, i ∈ vs) {σ : L2.St} {H : Hp} {Q : VK} (h : lE K J (tdLcB mb ti g tt te vs) σ H Q) : tLc (lI K J ti) (gT K g) (lT K J tt) (lE K J te) vs σ H Q := by
  obtain ⟨σd, M, Φ, rs, rm, h, k⟩ := h
  refine ⟨σd, M, _, rs, rm, h, fun ds stay M1 It H1 e1 rm1 it q1 p hp => ?_⟩
  have hM := rm1.free hp
  have eN : Ev M1 H1 (mu M1 p .hid) (upd H1 p (.lst [])) := .newM hp
  have rN : RepM K (mu M1 p .hid) (upd H1 p (.lst [])) := rm1.newM hp ⟨_, upd_same⟩
  refine ⟨fun i m H2 => m = ds.length - i ∧ i ≤ ds.length ∧ ∃ acc va M2, Ev M1 H1 M2 H2 ∧ RepM K M2 H2 ∧ M2 p = some .hid ∧ H2 p = some (.lst va) ∧ Reps K M2 H2 acc va ∧ lcD g tt te stay (wipeD σd vs) (ds.drop i) acc M2 (lcEnd mb p Φ),
    ⟨_, rfl, Nat.zero_le _, [], [], mu M1 p .hid, eN, rN, mu_same, upd_same, .nil, by simpa using q1 p hM⟩, ?_⟩
  rintro i m H2 ⟨rfl, hi, acc, va, M2, e2, rm2, hp2, hH2, ra, q2⟩
  have rsW : ∀ {M3 H3}, Ev M1 H1 M3 H3 → RepS K J M3 H3 (wipeD σd vs) (L2.wipe σ vs) := fun e3 => wipeD_ok ((e1.trans e3).slots rs) vs
  by_cases hl : i < ds.length
  · rw [List.drop_eq_getElem_cons hl] at q2
    obtain ⟨st, σ', es, q2⟩ := q2
    obtain ⟨_, it2⟩ := it i M2 H2 e2 rm2 st
    obtain ⟨go, yl⟩ := it2 _ (List.getElem?_eq_getElem hl)
    refine .inr ⟨go, fun H3 => ∃ acc va M2, Ev M1 H1 M2 H3 ∧ RepM K M2 H3 ∧ M2 p = some .hid ∧ H3 p = some (.lst va) ∧ Reps K M2 H3 acc va ∧ lcD g tt te stay (wipeD σd vs) (ds.drop (i + 1)) acc M2 (lcEnd mb p Φ), fun H3 q => ⟨ds.length - (i + 1), by omega, rfl, hl, q⟩, fun x H3 y => ?_⟩
    obtain ⟨e3, rm3, r3⟩ := yl x H3 y
    refine gT_ok (rsW (e2.trans e3)) r3 es fun σ4 rs4 hw => ⟨?_, ?_⟩
    · have ww : L2.wipe (L2.wipe σ vs) vs = L2.wipe σ vs := by
        have : ∀ (ws : List Nat) (τ : L2.St), (∀ i ∈ ws, i ∈ vs) → L2.wipe (L2.wipe τ ws) vs = L2.wipe τ vs := by
          intro ws
          induction ws with
          | nil => intro τ _; rfl
          | cons w ws ih =>
            intro τ hh
            show L2.wipe ((L2.wipe τ ws).set w none) vs = _
            rw [wipe_set, if_pos (hh w List.mem_cons_self)]
            exact ih τ fun i hi => hh i (List.mem_cons_of_mem _ hi)
        exact this vs σ fun _ h => h
      rw [hw vs hv, ww]
    · obtain ⟨hH3, hp3⟩ := e3 p _ hH2 (by rw [hp2]; trivial)
      refine ⟨σ', M2, _, rs4, rm3, q2, fun b M4 H4 e4 rm4 q4 => ?_⟩
      obtain ⟨hH4, hp4⟩ := e4 p _ hH3 (by rw [hp2]; trivial)
      rw [hp2] at hp4
      cases b with
      | true =>
        rw [if_pos rfl] at q4
        refine iteT ?_
        refine ⟨σ', M4, _, e4.slots rs4, rm4, q4, fun y' M5 v H5 e5 rm5 r5 q5 => ?_⟩
        obtain ⟨hH5, hp5⟩ := e5 p _ hH4 (by rw [hp4]; trivial)
        rw [hp4] at hp5
        have ra5 := (e3.trans (e4.trans e5)).reps _ _ ra
        have hlen : va.length < sizeLine := by rw [← ra.length]; exact q5.1
        have rA : Reps K M5 H5 (acc ++ [y']) (va ++ [v]) := ra5.append (.one r5)
        have stable : ∀ a u, a ≠ p → H5 a = some u → upd H5 p (.lst (va ++ [v])) a = some u := fun a u h1 h2 => by rw [upd_ne h1]; exact h2
        have nf : ∀ a, M5 a = none → a ≠ p := fun a n z => by rw [z, hp5] at n; cases n
        have eU : Ev (me M5 p) H5 (me M5 p) H5 := .refl
        -- from the turn's start on p is what is written
        have eW : Ev M1 H1 M5 (upd H5 p (.lst (va ++ [v]))) := fun a u h1 h2 => by
          obtain ⟨h3, h4⟩ := (e2.trans (e3.trans (e4.trans e5))) a u h1 h2
          have za : a ≠ p := fun z => by rw [z, hp] at h1; cases h1
          exact ⟨stable a u za h3, h4⟩
        have repW : ∀ (d : D) (u : V), Rep K M5 H5 d u → Rep K M5 (upd H5 p (.lst (va ++ [v]))) d u := by
          have eV : Ev (fun a => if a = p then some (.lst []) else M5 a) H5 (fun a => if a = p then some (.lst []) else M5 a) (upd H5 p (.lst (va ++ [v]))) := fun a u h1 h2 => by
            by_cases za : a = p
            · exact (show Still (some (MO.lst [])) from by have h3 : Still (if a = p then some (MO.lst []) else M5 a) := h2; rw [if_pos za] at h3; exact h3).elim
            · exact ⟨stable a u za h1, rfl⟩
          intro d u h1
          have h2 : Rep K (fun a => if a = p then some (.lst []) else M5 a) H5 d u := Rep.less (fun a n => by show Qt (if a = p then _ else _); rw [if_neg (fun z => by rw [z, hp5] at n; rcases n with n | ⟨_, n⟩ <;> cases n)]; exact n) d u h1
          have h3 := eV.rep d u h2
          refine Rep.less (fun a n => ?_) d u h3
          by_cases za : a = p
          · rw [if_pos za] at n; rcases n with n | ⟨_, n⟩ <;> cases n
          · rw [if_neg za] at n; exact n
        have repsW : ∀ (d : List D) (u : List V), Reps K M5 H5 d u → Reps K M5 (upd H5 p (.lst (va ++ [v]))) d u := by
          intro d
          induction d with
          | nil => intro u h; obtain rfl := Reps.nil_inv h; exact .nil
          | cons d ds ih =>
            intro u h
            obtain ⟨v', vr, rfl, r1, r2⟩ := Reps.inv h
            exact .cons (repW _ _ r1) (ih _ r2)
        have fsW : ∀ (d : List (Str × D)) (u : List (Str × V)), Fs K M5 H5 d u → Fs K M5 (upd H5 p (.lst (va ++ [v]))) d u := by
          intro d
          induction d with
          | nil => intro u h; exact h
          | cons d ds ih =>
            intro u h
            obtain ⟨f, d⟩ := d
            unfold Fs at h ⊢
            obtain ⟨v', vr, rfl, r1, r2⟩ := h
            exact ⟨v', vr, rfl, repW _ _ r1, ih _ r2⟩
        have ksW : ∀ (d : List (Key × D)) (u : List (Key × V)), Ks K M5 H5 d u → Ks K M5 (upd H5 p (.lst (va ++ [v]))) d u := by
          intro d
          induction d with
          | nil => intro u h; exact h
          | cons d ds ih =>
            intro u h
            obtain ⟨f, d⟩ := d
            unfold Ks at h ⊢
            obtain ⟨v', vr, rfl, r1, r2⟩ := h
            exact ⟨v', vr, rfl, repW _ _ r1, ih _ r2⟩
        have rmW : RepM K M5 (upd H5 p (.lst (va ++ [v]))) := fun z o hz => by
          by_cases zp : z = p
          · subst zp
            rw [hp5] at hz
            cases hz
            exact ⟨_, upd_same⟩
          · have w := rm5 z o hz
            cases o with
            | lst ds => obtain ⟨us, h1, h2⟩ := w; exact ⟨us, by rw [upd_ne zp]; exact h1, repsW _ _ h2⟩
            | dic ds => obtain ⟨us, h1, h2⟩ := w; exact ⟨us, by rw [upd_ne zp]; exact h1, ksW _ _ h2⟩
            | ins C ds => obtain ⟨dx, us, h1, h2⟩ := w; exact ⟨dx, us, by rw [upd_ne zp]; exact h1, fsW _ _ h2⟩
            | hid => obtain ⟨us, h1⟩ := w; exact ⟨us, by rw [upd_ne zp]; exact h1⟩
            | dicL ds => obtain ⟨od, us, h1, h2⟩ := w; exact ⟨od, us, by rw [upd_ne zp]; exact h1, ksW _ _ h2⟩
            | tupX ds => obtain ⟨od, us, h1, h3, h2⟩ := w; exact ⟨od, us, by rw [upd_ne zp]; exact h1, h3, repsW _ _ h2⟩
            | gen sh ds => obtain ⟨us, h1, h2⟩ := w; exact ⟨us, by rw [upd_ne zp]; exact h1, repsW _ _ h2⟩
            | genL sh ds => obtain ⟨od, us, h1, h2⟩ := w; exact ⟨od, us, by rw [upd_ne zp]; exact h1, repsW _ _ h2⟩
        exact ⟨va, hH5, hlen, acc ++ [y'], va ++ [v], M5, eW, rmW, hp5, upd_same, repsW _ _ rA, q5.2⟩
      | false =>
        rw [if_neg Bool.false_ne_true] at q4
        refine iteF ?_
        exact ⟨acc, va, M4, e2.trans (e3.trans e4), rm4, hp4, hH4, (e3.trans e4).reps _ _ ra, q4⟩
  · rw [List.drop_eq_nil_of_le (by omega)] at q2
    obtain ⟨st, q2⟩ := q2
    obtain ⟨stop, _⟩ := it i M2 H2 e2 rm2 st
    have zp : ∀ {a u}, H1 a = some u → a ≠ p := fun h1 z => by rw [z, hp] at h1; cases h1
    cases mb with
    | false =>
      refine .inl ⟨stop (by omega), k (.lst acc) (me M2 p) (.ref p) H2 (e1.trans ?_) rm2.freeze ?_ q2⟩
      · intro a u h1 h2
        obtain ⟨h3, h4⟩ := e2 a u h1 h2
        exact ⟨h3, by unfold me; rw [if_neg (zp h1)]; exact h4⟩
      · exact rep_lst.mpr ⟨p, va, rfl, .inl ⟨.inl (by unfold me; rw [if_pos rfl]), .inl hH2⟩, ra.less me_qt⟩
    | true =>
      have ln : ∀ a, Qt (M2 a) → Qt (mu M2 p (.lst acc) a) := fun a n => by
        rw [mu_ne fun z => ?_]
        · exact n
        · rw [z, hp2] at n; rcases n with n | ⟨_, n⟩ <;> cases n
      refine .inl ⟨stop (by omega), k (.ref p) (mu M2 p (.lst acc)) (.ref p) H2 (e1.trans ?_) ?_ (rep_ref.mpr rfl) q2⟩
      · intro a u h1 h2
        obtain ⟨h3, h4⟩ := e2 a u h1 h2
        exact ⟨h3, by rw [mu_ne (zp h1)]; exact h4⟩
      · intro z o hz
        by_cases e : z = p
        · subst e
          rw [mu_same] at hz
          cases hz
          exact ⟨va, hH2, ra.less ln⟩
        · rw [mu_ne e] at hz
          exact (rm2 z o hz).less ln
theorem de_lcB (m : Bool) {ifs : List Expr} {scope : Scope} {own : List (Str × Nat)} {ti : TID} {g : Tgt} {tt : TTd} (hc : X.calm = true) (hN : X.N.Nodup) (hi : DI J X tg e ti) (ok : BlkOk X.N X.env.scope scope own)
    (hg : ∀ (s : Shared) (H : Hp) (C : Addr) (cl : List (Str × Addr)) (fp : List Addr), DTg (X.blk s H scope (PySem.compEnvC scope cl C X.env) fp) tg g) (ht : ∀ (s : Shared) (H : Hp) (C : Addr) (cl : List (Str × Addr)) (fp : List Addr), DTs J (X.blk s H scope (PySem.compEnvC scope cl C X.env) fp) ifs tt)
    (he : ∀ (s : Shared) (H : Hp) (C : Addr) (cl : List (Str × Addr)) (fp : List Addr), DE J (X.blk s H scope (PySem.compEnvC scope cl C X.env) fp) elt te) (hv : ∀ i ∈ g.ix, i ∈ own.map (·.2) := by decide) (hs : ∀ x, foldedSetIterable e X.env x = pure x := by intro _; rfl) :
    DE J X (.ListComp elt [⟨tg, e, ifs, 0⟩] scope pos) (tdLcB m ti g tt te (own.map (·.2))) := PE.imp (pe_lc hc hN hi ok hg ht he hs) fun _ _ _ h => lc_of hv h
/-- name = [..] on one line, the name a local -/
theorem ds_setLcB (m : Bool) {i : Nat} {y : Str} {py : Pos} {ifs : List Expr} {scope : Scope} {own : List (Str × Nat)} {spos : Pos} {ti : TID} {g : Tgt} {tt : TTd} (hc : X.calm = true) (hN : X.N.Nodup) (hy : X.N[i]? = some y) (hyl : X.env.scope.names.lookup y = some .local)
    (hsw : swapsWith (.ListComp elt [⟨tg, e, ifs, 0⟩] scope pos) (some (.Name y py)) spos.line X.env = pure true) (hi : DI J X tg e ti) (ok : BlkOk X.N X.env.scope scope own)
    (hg : ∀ (s : Shared) (H : Hp) (C : Addr) (cl : List (Str × Addr)) (fp : List Addr), DTg (X.blk s H scope (PySem.compEnvC scope cl C X.env) fp) tg g) (ht : ∀ (s : Shared) (H : Hp) (C : Addr) (cl : List (Str × Addr)) (fp : List Addr), DTs J (X.blk s H scope (PySem.compEnvC scope cl C X.env) fp) ifs tt)
    (he : ∀ (s : Shared) (H : Hp) (C : Addr) (cl : List (Str × Addr)) (fp : List Addr), DE J (X.blk s H scope (PySem.compEnvC scope cl C X.env) fp) elt te) (hv : ∀ i ∈ g.ix, i ∈ own.map (·.2) := by decide) (hs : ∀ x, foldedSetIterable e X.env x = pure x := by intro _; rfl) :
    DS J X (.Assign [.Name y py] (.ListComp elt [⟨tg, e, ifs, 0⟩] scope pos) spos) (tdSet i (tdLcB m ti g tt te (own.map (·.2)))) := by
  refine PS.imp (ps_setLc (te := lE X.K J te) (g := gT X.K g) (tt := lT X.K J tt) hc hN hy hyl hsw hi ok hg ht he hs) fun D σ H ⟨σd, M, Δ, rs, rm, h, kn, _⟩ => ?_
  exact lc_of hv ⟨σd, M, _, rs, rm, h, fun d M1 v H1 e1 rm1 r1 q1 => kn _ M1 _ H1 e1 ((e1.slots rs).set r1 i) rm1 q1⟩
end
end DL

set_option Elab.async false
set_option linter.all false
set_option maxRecDepth 100000
/-! DL11: methods of built-in types, stores by place, augmented assignment. -/
namespace DL
open PySem L2
section
variable {X : Cx} {J : Jc} {o e i : Expr} {es : List Expr} {to te ti : TD} {t : TAd} {pos apos cpos : Pos} {K : PySem.W.Frag}
/-- what a method wants of its receiver -/
def tyD (T : String) (M : Mm) (x : D) : Prop := match x with
  | .str _ => T = "str"
  | .lst _ => T = "list"
  | .ref p => (T = "list" ∧ ∃ ds, M p = some (.lst ds)) ∨ (T = "dict" ∧ ∃ ds, M p = some (.dic ds))
  | _ => False
abbrev RMd := Mm → D → List D → QD → Prop
def lM (K : PySem.W.Frag) (r : RMd) : V → List V → Hp → VK → Prop := fun x vs H Q => ∃ M d ds Φ, RepM K M H ∧ Rep K M H d x ∧ Reps K M H ds vs ∧ r M d ds Φ ∧ ∀ d M' v H', Ev M H M' H' → RepM K M' H' → Rep K M' H' d v → Φ d M' → Q v H'
abbrev MtD (X : Cx) (id : String) (r : RMd) : Prop := MtR X id (lM X.K r)
@[simp] def tdBM (T : String) (r : RMd) (to : TD) (t : TAd) : TD := fun σ M Q => to σ M fun x M1 => tyD T M1 x ∧ t σ M1 fun ds M2 => r M2 x ds Q
theorem tyD_ok {M : Mm} {H : Hp} {T : String} {x : D} {v : V} (rm : RepM K M H) (r : Rep K M H x v) (h : tyD T M x) : tyV K T v H := by
  cases x with
  | str z => obtain ⟨rfl, _⟩ := rep_str.mp r; exact h
  | lst ds => obtain ⟨a, vs, rfl, tp, _⟩ := rep_lst.mp r; exact .inl ⟨h, vs, tp.sq⟩
  | ref p =>
    obtain rfl := rep_ref.mp r
    rcases h with ⟨h, ds, e⟩ | ⟨h, ds, e⟩
    · obtain ⟨vs, h1, _⟩ := rm p _ e
      exact .inl ⟨h, vs, SqL.of h1⟩
    · obtain ⟨vs, h1, _⟩ := rm p _ e
      exact .inr (.inr (.inl ⟨h, .inl ⟨vs, h1⟩⟩))
  | _ => exact h.elim
theorem de_bm {T name id : String} {r : RMd} (pa : PlainAttrs T) (slot : Slot T name id) (hty : typeOf (.builtin id) = pure (.type "method_descriptor")) (hm : MtD X id r) (ho : DE J X o to) (ha : DA J X (e :: es) t)
    (hbase : attributeBase o name X.env (eval o X.env) = eval o X.env := by rfl)
    (hfew : ((backTo cpos (starEach (e :: es) X.env)).all (fun x => !x.1) && (backToKw cpos (keywordEach [] X.env)).all (fun x => x.1.isSome)
      && decide ((e :: es).length + ([] : List Keyword).length + (if ([] : List Keyword).isEmpty then 0 else 1) < 30)) = true := by rfl)
    (hline : (apos.endLine == cpos.line) = true := by rfl) (hs : starEach (e :: es) X.env = (false, eval e X.env) :: starEach es X.env := by rfl) (hplain : (backTo cpos (starEach es X.env)).any (·.1) = false := by rfl) :
    DE J X (.Call (.Attribute o name apos) (e :: es) [] cpos) (tdBM T r to t) := by
  refine PE.imp (pe_bm pa slot hty hm ho ha hbase hfew hline hs hplain) fun σ H Q ⟨σd, M, Φ, rs, rm, h, k⟩ => ?_
  refine ⟨σd, M, _, rs, rm, h, fun x M1 v H1 e1 rm1 r1 q1 => ⟨tyD_ok rm1 r1 q1.1, ?_⟩⟩
  refine ⟨σd, M1, _, e1.slots rs, rm1, q1.2, fun ds M2 vs H2 e2 rm2 r2 q2 => ?_⟩
  exact ⟨M2, x, ds, _, rm2, e2.rep _ _ r1, r2, q2, fun d M' v H' e3 rm3 r3 q3 => k d M' v H' (e1.trans (e2.trans e3)) rm3 r3 q3⟩
@[simp] def tdBM0 (T : String) (r : RMd) (to : TD) : TD := fun σ M Q => to σ M fun x M1 => tyD T M1 x ∧ r M1 x [] Q
theorem de_bm0 {T name id : String} {r : RMd} (pa : PlainAttrs T) (slot : Slot T name id) (hty : typeOf (.builtin id) = pure (.type "method_descriptor")) (hm : MtD X id r) (ho : DE J X o to)
    (hbase : attributeBase o name X.env (eval o X.env) = eval o X.env := by rfl) (hline : (apos.endLine == cpos.line) = true := by rfl) : DE J X (.Call (.Attribute o name apos) [] [] cpos) (tdBM0 T r to) := by
  refine PE.imp (pe_bm0 pa slot hty hm ho hbase hline) fun σ H Q ⟨σd, M, Φ, rs, rm, h, k⟩ => ?_
  refine ⟨σd, M, _, rs, rm, h, fun x M1 v H1 e1 rm1 r1 q1 => ⟨tyD_ok rm1 r1 q1.1, ?_⟩⟩
  exact ⟨M1, x, [], _, rm1, r1, .nil, q1.2, fun d M' v H' e3 rm3 r3 q3 => k d M' v H' (e1.trans e3) rm3 r3 q3⟩
/-- xs.append(y) -/
@[simp] def dAppend : RMd := fun M x ds Q => ∃ p l y, x = .ref p ∧ ds = [y] ∧ M p = some (.lst l) ∧ l.length < sizeLine ∧ Q .non (mu M p (.lst (l ++ [y])))
theorem notStill {M : Mm} {p : Addr} {l : List D} (h : M p = some (.lst l)) : ¬ Still (M p) := by rw [h]; exact fun z => z
theorem notStillK {M : Mm} {p : Addr} {l : List (Key × D)} (h : M p = some (.dic l)) : ¬ Still (M p) := by rw [h]; exact fun z => z
theorem notStillI {M : Mm} {p : Addr} {C : Addr} {l : List (Str × D)} (h : M p = some (.ins C l)) : ¬ Still (M p) := by rw [h]; exact fun z => z
theorem mt_dAppend : MtD X "list.append" dAppend := by
  intro pins s σ H x xs v us Q I rx rs h
  obtain ⟨M, d, ds, Φ, rm, r, rr, ⟨p, l, y, rfl, rfl, hp, hl, h⟩, k⟩ := h
  obtain rfl := rep_ref.mp r
  obtain ⟨yv, rfl, ry⟩ := rr.one_inv
  obtain ⟨vs, h1, h2⟩ := rm p _ hp
  have ns := notStill hp
  refine mt_append pins s σ H _ _ v us Q I rx rs ⟨p, vs, yv, rfl, rfl, h1, by rw [← h2.length]; exact hl, ?_⟩
  have eS : Ev M H (mu M p (.lst (l ++ [y]))) (upd H p (.lst (vs ++ [yv]))) := .setM ns
  exact k .non _ .non _ eS (rm.setM ns ⟨_, upd_same, eS.reps _ _ (h2.append (.one ry))⟩) (rep_non.mpr rfl) h
/-- xs[i] = e -/
@[simp] def tdSub (to ti te : TD) : TSd := fun Δ σ M => te σ M fun v M1 => to σ M1 fun x M2 => ti σ M2 fun y M3 => ∃ p l k j, x = .ref p ∧ y = .int k ∧ M3 p = some (.lst l) ∧ ixN l.length k = some j ∧ Δ.nx σ (mu M3 p (.lst (l.set j v)))
theorem ds_sub {ps : Pos} (ho : DE J X o to) (hi : DE J X i ti) (he : DE J X e te)
    (ha : ∀ v, assign (.Subscript o i ps) X.env v = (do
      let ov ← holding [v] (eval o X.env)
      let iv ← holding [v, ov] (eval i X.env)
      standAt ps
      holding [v, ov, iv] (setItem ov iv v)
      release [v, ov, iv] []) := by intro _; rfl)
    (hs : swapsWithSole [.Subscript o i ps] e pos.line X.env = pure false := by rfl) (hw : swappedStores [.Subscript o i ps] e X.env = pure none := by rfl)
    (h1 : (assignEach [.Subscript o i ps] X.env).map (·.2) = [assign (.Subscript o i ps) X.env] := by rfl) : DS J X (.Assign [.Subscript o i ps] e pos) (tdSub to ti te) := by
  refine PS.imp (ps_asg he (pg_sub ho hi set_list ha) hs hw h1) fun D σ H ⟨σd, M, Δ, rs, rm, h, kn, _⟩ => ?_
  refine ⟨σd, M, _, rs, rm, h, fun v M1 vv H1 e1 rm1 r1 q1 => ?_⟩
  refine ⟨σd, M1, _, e1.slots rs, rm1, q1, fun x M2 xv H2 e2 rm2 r2 q2 => ?_⟩
  refine ⟨σd, M2, _, e2.slots (e1.slots rs), rm2, q2, fun y M3 yv H3 e3 rm3 r3 q3 => ?_⟩
  obtain ⟨p, l, k, j, rfl, rfl, hp, hj, q⟩ := q3
  obtain rfl := rep_ref.mp r2
  obtain rfl := rep_int.mp r3
  obtain ⟨vs, h1, h2⟩ := rm3 p _ hp
  have ns := notStill hp
  have r1' := (e2.trans e3).rep _ _ r1
  refine ⟨p, vs, k, j, rfl, rfl, h1, by rw [← h2.length]; exact hj, ?_⟩
  have eS : Ev M3 H3 (mu M3 p (.lst (l.set j v))) (upd H3 p (.lst (vs.set j vv))) := .setM ns
  exact kn σd _ σ _ (e1.trans (e2.trans (e3.trans eS))) (eS.slots (e3.slots (e2.slots (e1.slots rs)))) (rm3.setM ns ⟨_, upd_same, eS.reps _ _ (h2.set r1' j)⟩) q
/-- x += e of ints (x -= e) -/
@[simp] def tdAug (i : Nat) (te : TD) (g : Int → Int → Int) : TSd := fun Δ σ M => ∃ a, σ[i]? = some (some (.int a)) ∧ te σ M fun y M1 => ∃ b, y = .int b ∧ Δ.nx (σ.set i (some (.int (g a b)))) M1
theorem ds_aug {k : Nat} {x : Str} {op : Operator} {g : Int → Int → Int} {pos' : Pos} (hN : X.N.Nodup) (hi : X.N[k]? = some x) (hx : Loc X.env.scope x) (he : DE J X e te) (ho : PIp X op (ipI g)) (hf : X.fn x = true ∨ X.env.scope.names.lookup x = some .local := by first | exact .inl rfl | exact .inr rfl | assumption) :
    DS J X (.AugAssign (.Name x pos') op e pos) (tdAug k te g) := by
  refine PS.imp (ps_aug hN hi hx he ho hf) fun D σ H ⟨σd, M, Δ, rs, rm, h, kn, _⟩ => ?_
  obtain ⟨a, e0, h⟩ := h
  obtain ⟨v, e1, r1⟩ := rs.2 _ _ e0
  obtain rfl := rep_int.mp r1
  refine ⟨.int a, e1, σd, M, _, rs, rm, h, fun d M1 v H1 e1 rm1 r1 q1 => ?_⟩
  obtain ⟨b, rfl, q⟩ := q1
  obtain rfl := rep_int.mp r1
  exact ⟨a, b, rfl, rfl, kn _ M1 _ H1 e1 ((e1.slots rs).set (rep_int.mpr rfl) k) rm1 q⟩
end
end DL

set_option Elab.async false
set_option linter.all false
set_option maxRecDepth 100000
/-! DL12: room for comparisons; further rules. -/
namespace DL
open PySem L2
theorem hu66 {k : Nat} {A : Around} (hr : Room k A) : A.units + 66 < cLine := by have := hr.un; omega
theorem hu67 {k : Nat} {A : Around} (hr : Room k A) : A.units + 67 < cLine := by have := hr.un; omega
end DL

set_option Elab.async false
set_option linter.all false
set_option maxRecDepth 100000
/-! DL13: further rules: is True, minus, + of lists that are changed, two and three names at once, an item of a written dict, slices backwards. -/
namespace DL
open PySem L2
section
variable {X : Cx} {J : Jc} {a b c e : Expr} {ta tb te ti : TD} {es : List Expr} {t : TAd} {pos : Pos}
/-! ### is of bools -/
@[simp] def dIsB : R2d := fun _ x y Q => ∃ i j, x = .bl i ∧ y = .bl j ∧ Q (.bl (decide (i = j)))
@[simp] def dIsNotB : R2d := fun _ x y Q => ∃ i j, x = .bl i ∧ y = .bl j ∧ Q (.bl (!decide (i = j)))
theorem op_dIsB : OpD X (compareOp .Is) dIsB := by
  intro pins s σ H x y v u Q I rx ry h
  obtain ⟨M, a, b, Φ, rm, ra, rb, ⟨i, j, rfl, rfl, h⟩, k⟩ := h
  obtain rfl := rep_bl.mp ra
  obtain rfl := rep_bl.mp rb
  exact op_is_bl pins s σ H _ _ v u Q I rx ry ⟨i, j, rfl, rfl, k _ _ H .refl rm (rep_bl.mpr rfl) h⟩
theorem op_dIsNotB : OpD X (compareOp .IsNot) dIsNotB := by
  intro pins s σ H x y v u Q I rx ry h
  obtain ⟨M, a, b, Φ, rm, ra, rb, ⟨i, j, rfl, rfl, h⟩, k⟩ := h
  obtain rfl := rep_bl.mp ra
  obtain rfl := rep_bl.mp rb
  exact op_isnot_bl pins s σ H _ _ v u Q I rx ry ⟨i, j, rfl, rfl, k _ _ H .refl rm (rep_bl.mpr rfl) h⟩
/-! ### minus -/
@[simp] def tdNeg (ta : TD) : TD := fun σ M Q => ta σ M fun x M1 => ∃ i, x = .int i ∧ Q (.int (-i)) M1
theorem de_neg (ha : DE J X a ta) : DE J X (.UnaryOp .USub a pos) (tdNeg ta) := by
  refine PE.imp (pe_un un_neg ha) fun σ H Q ⟨σd, M, Φ, rs, rm, h, k⟩ => ?_
  refine ⟨σd, M, _, rs, rm, h, fun x M1 v H1 e1 rm1 r1 q1 => ?_⟩
  obtain ⟨i, rfl, q1⟩ := q1
  obtain rfl := rep_int.mp r1
  exact ⟨i, rfl, k _ M1 _ H1 e1 rm1 (rep_int.mpr rfl) q1⟩
/-! ### a list made by +, changed later -/
@[simp] def tdAddM (ta tb : TD) : TD := fun σ M Q => ta σ M fun x M1 => tb σ M1 fun y M2 => ∃ xs ys, vw M2 x = .lst xs ∧ vw M2 y = .lst ys ∧ xs.length + ys.length ≤ sizeLine ∧ ∀ p, M2 p = none → Q (.ref p) (mu M2 p (.lst (xs ++ ys)))
def rAddM (K : PySem.W.Frag) : R2 := fun x y H Q => ∃ (M : Mm) (d e : D) (Φ : QD), RepM K M H ∧ Rep K M H d x ∧ Rep K M H e y ∧ (∃ xs ys, vw M d = .lst xs ∧ vw M e = .lst ys ∧ xs.length + ys.length ≤ sizeLine ∧ ∀ p, M p = none → Φ (.ref p) (mu M p (.lst (xs ++ ys)))) ∧
  ∀ d M' v H', Ev M H M' H' → RepM K M' H' → Rep K M' H' d v → Φ d M' → Q v H'
theorem op_addM : OpR X (binaryOp .Add) (rAddM X.K) := by
  intro pins s σ H x y v u Q I rx ry h
  obtain ⟨M, d, e, Φ, rm, ra, rb, ⟨xs, ys, e1, e2, hz, h⟩, k⟩ := h
  have ra' := ra.vr rm
  have rb' := rb.vr rm
  rw [e1] at ra'
  rw [e2] at rb'
  obtain ⟨p, vs, rfl, tp, r1⟩ := vr_lst.mp ra'
  obtain ⟨p2, us, rfl, tp2, r2⟩ := vr_lst.mp rb'
  cases rx
  cases ry
  exact add_any I tp tp2 (by rw [← r1.length, ← r2.length]; exact hz) fun z hz' => k _ _ _ _ (.newM hz') (rm.newM hz' (.lstNew hz' (r1.append r2))) (rep_ref.mpr rfl) (h z (rm.free hz'))
theorem de_opM (ha : DE J X a ta) (hb : DE J X b tb) : DE J X (.BinOp a .Add b pos) (tdAddM ta tb) := by
  refine PE.imp (pe_op op_addM ha hb) fun σ H Q ⟨σd, M, Φ, rs, rm, h, k⟩ => ?_
  refine ⟨σd, M, _, rs, rm, h, fun x M1 v H1 e1 rm1 r1 q1 => ?_⟩
  refine ⟨σd, M1, _, e1.slots rs, rm1, q1, fun y M2 u H2 e2 rm2 r2 q2 => ?_⟩
  exact ⟨M2, x, y, _, rm2, e2.rep _ _ r1, r2, q2, fun d M' v' H' e3 rm3 r3 q3 => k d M' v' H' (e1.trans (e2.trans e3)) rm3 r3 q3⟩
/-! ### two, three names at once -/
@[simp] def tdPar (is : List Nat) (t : TAd) : TSd := fun Δ σ M => t σ M fun ds M1 => ∃ σ', setMany is ds σ = some σ' ∧ Δ.nx σ' M1
theorem ds_par {i j : Nat} {x y : Str} {px py pt : Pos} {kt k2 pt2} (hc : X.calm = true) (hN : X.N.Nodup) (hi : X.N[i]? = some x) (hj : X.N[j]? = some y) (hij : i ≠ j)
    (hx : X.env.scope.names.lookup x = some .local) (hy : X.env.scope.names.lookup y = some .local) (ha : DA J X [a, b] t)
    (hw : swappedStores [.Tuple [.Name x px, .Name y py] kt pt] (.Tuple [a, b] k2 pt2) X.env = pure (some [x, y]))
    (hs : swapsWithSole [.Tuple [.Name x px, .Name y py] kt pt] (.Tuple [a, b] k2 pt2) pos.line X.env = pure false := by rfl) :
    DS J X (.Assign [.Tuple [.Name x px, .Name y py] kt pt] (.Tuple [a, b] k2 pt2) pos) (tdPar [i, j] t) := by
  refine PS.imp (ps_par hc hN hi hj hij hx hy ha hw hs) fun D σ H ⟨σd, M, Δ, rs, rm, h, kn, _⟩ => ?_
  refine ⟨σd, M, _, rs, rm, h, fun ds M1 vs H1 e1 rm1 r1 q1 => ?_⟩
  obtain ⟨σ', e, q⟩ := q1
  match ds, e with
  | [d1, d2], e =>
    cases e
    obtain ⟨v, u, rfl, q1, q2⟩ := r1.two_inv
    exact ⟨v, u, rfl, kn _ M1 _ H1 e1 (((e1.slots rs).set q1 i).set q2 j) rm1 q⟩
theorem ds_par3 {i j l : Nat} {x y z : Str} {px py pz pt : Pos} {kt k2 pt2} (hc : X.calm = true) (hN : X.N.Nodup) (hi : X.N[i]? = some x) (hj : X.N[j]? = some y) (hl : X.N[l]? = some z) (hij : i ≠ j) (hil : i ≠ l) (hjl : j ≠ l)
    (hx : X.env.scope.names.lookup x = some .local) (hy : X.env.scope.names.lookup y = some .local) (hz : X.env.scope.names.lookup z = some .local) (ha : DA J X [a, b, c] t)
    (hw : swappedStores [.Tuple [.Name x px, .Name y py, .Name z pz] kt pt] (.Tuple [a, b, c] k2 pt2) X.env = pure (some [x, y, z]))
    (hs : swapsWithSole [.Tuple [.Name x px, .Name y py, .Name z pz] kt pt] (.Tuple [a, b, c] k2 pt2) pos.line X.env = pure false := by rfl) :
    DS J X (.Assign [.Tuple [.Name x px, .Name y py, .Name z pz] kt pt] (.Tuple [a, b, c] k2 pt2) pos) (tdPar [i, j, l] t) := by
  refine PS.imp (ps_par3 hc hN hi hj hl hij hil hjl hx hy hz ha hw hs) fun D σ H ⟨σd, M, Δ, rs, rm, h, kn, _⟩ => ?_
  refine ⟨σd, M, _, rs, rm, h, fun ds M1 vs H1 e1 rm1 r1 q1 => ?_⟩
  obtain ⟨σ', e, q⟩ := q1
  match ds, e with
  | [d1, d2, d3], e =>
    cases e
    obtain ⟨v, vr, rfl, q1, r2⟩ := Reps.inv r1
    obtain ⟨u, w, rfl, q2, q3⟩ := r2.two_inv
    exact ⟨v, u, w, rfl, kn _ M1 _ H1 e1 ((((e1.slots rs).set q1 i).set q2 j).set q3 l) rm1 q⟩
/-! ### an item of a written dict of texts to ints -/
def dixL (kvs : List (String × Int)) : List (Key × V) := mergeK [] (kvs.map fun p => (Sum.inr (Str.ofString p.1), V.int p.2))
@[simp] def tdDix (kvs : List (String × Int)) (ti : TD) : TD := fun σ M Q => ti σ M fun y M1 => ∃ s i, y = .str s ∧ valV (dixL kvs) (.inr ⟨s.toArray⟩) = some (.int i) ∧ Q (.int i) M1
def trsOf (kvs : List (String × Int)) : List (TE × TE) := kvs.map fun p => (tC (.str (Str.ofString p.1)), tC (.int p.2))
theorem tPairs_of (kvs : List (String × Int)) {σ : L2.St} {H : Hp} : ∀ {Q : List (V × V) → Hp → Prop}, Q (kvs.map fun p => (V.str (Str.ofString p.1), V.int p.2)) H → tPairs (trsOf kvs) σ H Q := by
  induction kvs with
  | nil => intro Q h; exact h
  | cons p kvs ih => intro Q h; exact ih (Q := fun ps H3 => Q ((V.str (Str.ofString p.1), V.int p.2) :: ps) H3) h
theorem upd_upd {H : Hp} {p : Addr} {o u : HO} : upd (upd H p o) p u = upd H p u := by funext q; unfold upd; split <;> rfl
theorem de_dix {keys : List (Option Expr)} {values : List Expr} {p2 : Pos} {kvs : List (String × Int)} (hu : X.A.units + 1 < cLine) (hk : PPs X p2 keys values (trsOf kvs)) (hi : DE J X e ti) (hall : keys.all (·.isSome) = true := by rfl) (hl : keys.length = values.length := by rfl) (h0 : keys ≠ [] := by intro h; cases h)
    (h15 : keys.length ≤ 15 := by decide) (hkv : kvs.length ≤ 15 := by decide) (hs : NoSl e := by intro _ _; rfl) : DE J X (.Subscript (.Dict keys values p2) e pos) (tdDix kvs ti) := by
  refine PE.imp (pe_dget hu (pe_disp hk hall hl h0 h15) hi hs) fun σ H Q ⟨σd, M, Φ, rs, rm, h, k⟩ => ?_
  intro p hp
  refine tPairs_of kvs ?_
  refine ⟨upd_same, kvs.map fun p => (Sum.inr (Str.ofString p.1), V.int p.2), by rw [List.map_map]; rfl, by rw [List.length_map]; exact hkv, ?_⟩
  rw [upd_upd]
  have eN : Ev M H M (upd H p (.dK (dixL kvs))) := .new hp
  refine ⟨σd, M, _, eN.slots rs, rm.new hp, h, fun y M1 v H1 e1 rm1 r1 q1 => ?_⟩
  obtain ⟨s, i, rfl, hv, q1⟩ := q1
  obtain ⟨rfl, _⟩ := rep_str.mp r1
  have hp1 := (e1.non (a := p) (o := .dK (dixL kvs)) upd_same (rm.free hp)).1
  exact ⟨p, .int i, rfl, .inl ⟨dixL kvs, .inr ⟨s.toArray⟩, .inl hp1, rfl, hv.symm⟩, k _ M1 _ H1 (eN.trans e1) rm1 (rep_int.mpr rfl) q1⟩
/-! ### slices backwards, of a tuple: from a place on to the first -/
@[simp] def tdRevT (n : Nat) (te : TD) : TD := fun σ M Q => te σ M fun x M1 => ∃ ds, vw M1 x = .tup ds ∧ n < ds.length ∧ Q (.tup (ds.take (n + 1)).reverse) M1
end
end DL
namespace HT
open PySem PyProof.Rows
open PySem.SeqAt
open PySem.AutoSeq1 (wpAny_loadPart')
open PySem.MeetsSeq PySem.MeetsSeq2 PySem.MeetsSeq3
section
variable {prog : Program} {w : World} {A : Around} {E : Value → Shared → Prop} {s : Shared}
theorem sliceApplied_back {sl : Addr} {vl vs : Value} {k n : Nat} {Q : Int × Int × Nat → Shared → Prop} (hs : s.heap.IsSliceOf sl vl .none vs) (pl : IsPart vl (some (k : Int))) (ps : IsPart vs (some (-1))) (hk : k < n)
    (h : Q ((k : Int), -1, k + 1) s) : wpAny (model prog w) A (Builtin.Slice.sliceApplied (.ref sl) (pure (n : Int))) Q E s := by
  obtain ⟨os, hos, hcs, hds⟩ := id hs
  unfold Builtin.Slice.sliceApplied Builtin.Slice.sliceFields
  refine wpAny_bind (wpAny_bind (wpAny_field hos hds (x := vl) rfl (wpAny_bind (wpAny_field hos hds (x := .none) rfl (wpAny_bind (wpAny_field hos hds (x := vs) rfl (wpAny_pure ?_)))))))
  refine wpAny_bind (slicePart_ ps ?_)
  show wpAny _ _ (if ((-1 : Int) == 0) = true then _ else _) _ _ s
  rw [if_neg (by decide)]
  refine wpAny_bind (slicePart_ pl (wpAny_bind (slicePart_none (wpAny_bind (wpAny_pure ?_)))))
  show wpAny _ _ (match Builtin.Slice.sliceAdjust (some (k : Int)) none (-1) (n : Int) with | (lo, hi) => pure (lo, (-1 : Int), Builtin.Slice.slicePlaces lo hi (-1))) _ _ s
  have e : Builtin.Slice.sliceAdjust (some (k : Int)) none (-1) (n : Int) = ((k : Int), -1) := by
    unfold Builtin.Slice.sliceAdjust
    have h1 : ((-1 : Int) < 0) := by omega
    have h2 : ¬ ((k : Int) < 0) := by omega
    simp only [h1, if_true, h2, if_false]
    refine Prod.ext ?_ rfl
    show min (k : Int) ((n : Int) - 1) = k
    omega
  rw [e]
  have e2 : Builtin.Slice.slicePlaces (k : Int) (-1) (-1) = k + 1 := by
    unfold Builtin.Slice.slicePlaces
    have h1 : ¬ ((-1 : Int) > 0) := by omega
    have h2 : (k : Int) > -1 := by omega
    simp only [h1, if_false, h2, if_true]
    show ((((k : Int) - -1 - 1) / 1) + 1).toNat = k + 1
    rw [Int.ediv_one]
    omega
  show wpAny _ _ (pure ((k : Int), (-1 : Int), Builtin.Slice.slicePlaces (k : Int) (-1) (-1))) _ _ s
  rw [e2]
  exact wpAny_pure h
theorem fm_some {α β : Type} {f : α → Option β} {g : α → β} : ∀ {l : List α}, (∀ m ∈ l, f m = some (g m)) → l.filterMap f = l.map g
  | [], _ => rfl
  | a :: l, h => by
    rw [List.filterMap_cons, h a List.mem_cons_self, List.map_cons, fm_some fun m hm => h m (List.mem_cons_of_mem _ hm)]
theorem pick_back (xs : List Value) (k : Nat) (hk : k < xs.length) : ((List.range (k + 1)).filterMap fun (m : Nat) => xs.toArray[((k : Int) + (m : Int) * (-1)).toNat]?) = (xs.take (k + 1)).reverse := by
  have e : ∀ m ∈ List.range (k + 1), xs.toArray[((k : Int) + (m : Int) * (-1)).toNat]? = some (xs.getD (k - m) Value.none) := fun m hm => by
    have hm' : m < k + 1 := List.mem_range.mp hm
    have : ((k : Int) + (m : Int) * (-1)).toNat = k - m := by omega
    rw [this, List.getElem?_toArray, List.getElem?_eq_getElem (by omega)]
    simp [List.getD_eq_getElem?_getD, List.getElem?_eq_getElem (show k - m < xs.length by omega)]
  have e2 : ((List.range (k + 1)).filterMap fun (m : Nat) => xs.toArray[((k : Int) + (m : Int) * (-1)).toNat]?) = (List.range (k + 1)).map fun m => xs.getD (k - m) Value.none := by
    exact fm_some e
  rw [e2]
  apply List.ext_getElem
  · simp; omega
  · intro i h1 h2
    have hi : i < k + 1 := by simpa using h1
    rw [List.getElem_map, List.getElem_range, List.getElem_reverse, List.getElem_take]
    have hl : (xs.take (k + 1)).length = k + 1 := by rw [List.length_take]; omega
    simp only [hl]
    rw [List.getD_eq_getElem?_getD, List.getElem?_eq_getElem (show k - i < xs.length by omega)]
    simp
theorem getItem_tuple_back {t sl : Addr} {items : List Value} {vl vs : Value} {k : Nat} {Q : Value → Shared → Prop} (ht : IsTup s.heap t items.toArray) (hs : s.heap.IsSliceOf sl vl .none vs) (pl : IsPart vl (some (k : Int))) (ps : IsPart vs (some (-1))) (hk : k < items.length)
    (h : Q (.ref s.heap.objs.size) { s with heap := s.heap.push { cls := .type "tuple", data := .seq (items.take (k + 1)).reverse.toArray } })
    (hsz : items.length ≤ sizeLine) : wpAny (model prog w) A (getItem (.ref t) (.ref sl)) Q E s := by
  have htake : sizeOk (.seq (items.take (k + 1)).reverse.toArray) := by
    show (items.take (k + 1)).reverse.toArray.size ≤ sizeLine
    rw [List.size_toArray, List.length_reverse, List.length_take]
    omega
  obtain ⟨os, hos, hcs, hds⟩ := id hs
  have hTs : s.TypeIs (.ref sl) "slice" := ⟨os, hos, hcs⟩
  unfold getItem
  try with_reducible refine wpAny_holding ?_
  first | refine wpAny_bind (wpAny_pure ?_) | skip
  refine wpAny_bind (wpAny_sequenceKey ht.typeIs (by decide) ?_)
  refine wpAny_bind (wpAny_callSpecial?_slot (name := Str.ofString "__getitem__") ht.typeIs PyProof.Rows.slot_tuple_getitem
    (wpAny_call_entry PyProof.Rows.slot_tuple_getitem ht.typeIs entry_tuple_getitem ?_ (args_tuple_getitem _ _)))
  show wpAny _ _ (Builtin.Tuple.tupleItemsOf (.ref t) >>= _) _ _ s
  refine wpAny_bind (tupleItemsOf_ ht ?_)
  refine wpAny_bind (wpAny_typeOf hTs ?_)
  rw [if_pos (by decide)]
  refine wpAny_bind (sliceApplied_back (n := items.toArray.size) hs pl ps (by simpa using hk) ?_)
  have hno : ¬ (((k : Int) == 0 && (-1 : Int) == 1 && (k + 1) == items.toArray.size) = true) := by
    intro q
    rw [Bool.and_eq_true, Bool.and_eq_true] at q
    exact absurd q.1.2 (by decide)
  show wpAny _ _ (if ((k : Int) == 0 && (-1 : Int) == 1 && (k + 1) == items.toArray.size) = true then _ else _) _ _ s
  rw [if_neg hno, pick_back items k hk]
  first
    | exact wpAny_bind (m := Builtin.Tuple.tupleExact _) (wpAny_newObj_type (wpAny_pure ⟨_, rfl, wpAny_pure h⟩) htake)
    | exact wpAny_bind (m := Builtin.Tuple.tupleExact _) (wpAny_newObj_type (wpAny_bind (wpAny_pure (wpAny_pure ⟨_, rfl, wpAny_pure h⟩))) htake)
    | exact wpAny_bind (wpAny_bind (m := Builtin.Tuple.tupleExact _) (wpAny_newObj_type (wpAny_pure (wpAny_pure ⟨_, rfl, wpAny_pure h⟩)) htake))
    | exact wpAny_bind (wpAny_bind (m := Builtin.Tuple.tupleExact _) (wpAny_newObj_type (wpAny_pure ⟨_, rfl, wpAny_pure h⟩) htake))
end
end HT
namespace DL
open PySem L2 PyProof.Rows
theorem Reps.reverse {K : PySem.W.Frag} {M : Mm} {H : Hp} : ∀ {ds : List D} {vs : List V}, Reps K M H ds vs → Reps K M H ds.reverse vs.reverse
  | [], vs, h => by obtain rfl := Reps.nil_inv h; exact .nil
  | d :: ds, vs, h => by
    obtain ⟨v, vr, rfl, r1, r2⟩ := Reps.inv h
    rw [List.reverse_cons, List.reverse_cons]
    exact (Reps.reverse r2).append (.one r1)
section
variable {X : Cx} {J : Jc} {e : Expr} {te : TD} {pos : Pos}
theorem de_revT {i : Int} {n : Nat} {k k0 : Nat} {p0 p1 p2 p3 : Pos} (he : DE J X e te) (hi : i = (n : Int) := by rfl) : DE J X (.Subscript e (.Slice (some (.Constant (.int i) k0 p0)) none (some (.UnaryOp .USub (.Constant (.int 1) k p1) p2)) p3) pos) (tdRevT n te) := by
  subst hi
  refine ⟨fun pins s σ H Q I ⟨σd, M, Φ, rs, rm, h, kk⟩ => ?_⟩
  refine Subscript_ (thn (he.run pins s σ H _ I ⟨σd, M, _, rs, rm, h, fun d M1 v H1 e1 rm1 r1 q1 => (⟨d, M1, e1, rm1, r1, q1⟩ : ∃ d M1, Ev M H M1 H1 ∧ RepM X.K M1 H1 ∧ Rep X.K M1 H1 d v ∧ ∃ ds, vw M1 d = .tup ds ∧ n < ds.length ∧ Φ (.tup (ds.take (n + 1)).reverse) M1)⟩) fun v s1 ⟨x, H1, I1, r1, q1⟩ => ?_)
  obtain ⟨d, M1, e1, rm1, rd, ds, hv, hn, q1⟩ := q1
  have rv := rd.vr rm1
  rw [hv] at rv
  obtain ⟨a, vs, rfl, tp, rx⟩ := rep_tup.mp (vr_tup rv)
  cases r1
  have hst : PO X (some (.UnaryOp .USub (.Constant (.int 1) k p1) p2)) (tPart (tUn (rU fun i => .int (-i)) (tC (.int 1)))) := po_some (pe_un un_neg pe_int)
  have hlo : PO X (some (.Constant (.int (n : Int)) k0 p0)) (tPart (tC (.int (n : Int)))) := po_some pe_int
  refine wpAny_Slice (thn (hlo.run pins s1 σ H1 (fun o H2 => o = some (n : Int) ∧ H2 = H1) I1 ⟨_, rfl, rfl, rfl⟩) fun vl s2 ⟨l, H2, I2, pl, el, e2⟩ => ?_)
  subst el e2
  refine thn (po_none.run pins s2 σ H2 (fun o H3 => o = none ∧ H3 = H2) I2 ⟨rfl, rfl⟩) fun vu s3 ⟨u, H3, I3, pu, eu, e3⟩ => ?_
  subst eu e3
  refine thn (hst.run pins s3 σ H3 (fun o H4 => o = some (-1) ∧ H4 = H3) I3 ⟨1, rfl, -1, rfl, rfl, rfl⟩) fun vs' s4 ⟨o, H4, I4, ps, eo, e4⟩ => ?_
  subst eo e4
  have I5 : Inv X pins σ H4 { s4 with heap := s4.heap.push { cls := .type "slice", data := .fields #[vl, vu, vs'] } } := I4.kept (t' := s4.toks) fun b ob q => Heap.get?_push_of_some _ q
  obtain ⟨its, r, ht, hz⟩ := I5.tuple tp.sq
  have hlen := r.length
  have hlen2 := rx.length
  cases pu
  show wpAny (model X.prog X.w) X.A (subscriptTail e (.Slice (some (.Constant (.int (n : Int)) k0 p0)) none (some (.UnaryOp .USub (.Constant (.int 1) k p1) p2)) p3) (.ref a) (.ref s4.heap.objs.size)) (EP X pins σ Q) X.xe { s4 with heap := s4.heap.push { cls := .type "slice", data := .fields #[vl, .none, vs'] } }
  refine tail_any (ops := [.ref a, .ref s4.heap.objs.size]) ht.typeIs (PyProof.Rows.slot_tuple_getitem.lookup) ?_ (by with_unfolding_all rfl)
  refine HT.getItem_tuple_back (k := n) ht (Heap.IsSliceOf.new _ vl .none vs') pl ps (by omega) ?_ (by omega)
  refine EP.tup (vs := (vs.take (n + 1)).reverse) I5 ?_ ?_ fun hp => kk _ M1 _ _ (e1.trans (.new hp)) (rm1.new hp) (.tupNew rm1 hp (rx.take (n + 1)).reverse) q1
  · exact (r.take (n + 1)).reverse
  · rw [List.length_reverse, List.length_take]; omega
end
end DL
namespace DL
open PySem L2
theorem hu1 {k : Nat} {A : Around} (hr : Room k A) : A.units + 1 < cLine := by have := hr.un; omega
end DL

set_option Elab.async false
set_option linter.all false
set_option maxRecDepth 100000
/-! DL15: exceptions: raise, calls that may raise, try .. except. -/
namespace DL
open PySem L2
/-- what is wished of an exception, at the slots where it leaves -/
abbrev XS := String → Option (List (Str × D)) → Sg → Mm → Prop
def xs0 : XS := fun _ _ _ _ => False
/-- .. wherever it leaves -/
@[simp] def xsd (Ψ : XD) : XS := fun n fs _ M => Ψ n fs M
/-- the wish W of the layer below is met by Ψ -/
structure Thr (X : Cx) (J : Jc) (W : WX) (Ψ : XS) : Prop where
  tk : Takes X W
  w : ∀ n o fs σd M σ H, RepS X.K J M H σd σ → RepM X.K M H → RepX X.K M H o fs → Ψ n fs σd M → W (clN X.mg n) o σ H
section
variable {X : Cx} {J : Jc} {W : WX} {Ψ : XS} {e : Expr} {es : List Expr} {t : TAd} {pos p : Pos}
/-! ### calls -/
@[simp] def tdCallS (sp : SpD) (Ψ : XS) (t : TAd) : TD := fun σ M Q => t σ M fun ds M1 => sp ds M1 Q fun n fs M2 => Ψ n fs σ M2
/-- a def among the globals that may raise -/
def FnGX (P : Program) (w : World) (K : PySem.W.Frag) (mg : Str → Option Value) (base : Heap) (k : Nat) (x : Str) (ps : List Str) (sp : SpD) : Prop :=
  ∃ f fd, FnOk P w K mg base (L2.CX P w) k f fd ps (lSp K mg sp) ∧ mg x = some (.ref f) ∧ PySem.W.keepIn K (.ref f) = true ∧ Binds K fd ps [] ∧ ∀ (s : Shared) (us : List Value), us.length = ps.length → BindsTo s fd ⟨us, []⟩ (ps.zip us)
theorem FnGX.mono {P : Program} {w : World} {K : PySem.W.Frag} {mg : Str → Option Value} {base : Heap} {k j : Nat} {x : Str} {ps : List Str} {sp : SpD} (G : FnGX P w K mg base k x ps sp) (h : k ≤ j) : FnGX P w K mg base j x ps sp :=
  let ⟨f, fd, a, b⟩ := G
  ⟨f, fd, a.mono h, b⟩
theorem FnGX.imp {P : Program} {w : World} {K : PySem.W.Frag} {mg : Str → Option Value} {base : Heap} {k : Nat} {x : Str} {ps : List Str} {sp sp' : SpD} (G : FnGX P w K mg base k x ps sp) (h : ∀ ds M Q E, sp' ds M Q E → sp ds M Q E) : FnGX P w K mg base k x ps sp' :=
  let ⟨f, fd, a, b⟩ := G
  ⟨f, fd, a.imp fun vs H Q E ⟨M, ds, Φ, Ψ, h1, h2, h3, h4⟩ => ⟨M, ds, Φ, Ψ, h1, h2, h ds M Φ Ψ h3, h4⟩, b⟩
theorem de_callS {k j : Nat} {x : Str} {ps : List Str} {sp : SpD} (G : FnGX X.prog X.w X.K X.mg X.base k x ps sp) (hr : Room j X.A) (hg : Gl X x) (th : Thr X J W Ψ) (ha : DA J X (e :: es) t) (hj : k ≤ j := by omega) (hdb : (x == ("__debug__" : Str)) = false := by decide)
    (he : starEach (e :: es) X.env = (false, eval e X.env) :: starEach es X.env := by rfl) (hpl : (backTo pos (starEach es X.env)).any (·.1) = false := by rfl) : DE J X (.Call (.Name x p) (e :: es) [] pos) (tdCallS sp Ψ t) := by
  obtain ⟨f, fd, F, hm, hk, hb, _⟩ := G
  refine PE.imp (pe_callS (E := WE W) F (hr.mono hj) hg hm hk hb (fun σ => passAt th.tk σ) ha hdb he hpl) fun σ H Q h => ?_
  obtain ⟨σd, M, Φ, rs, rm, h, k⟩ := h
  refine ⟨σd, M, _, rs, rm, h, fun ds M1 vs H1 e1 rm1 r1 q1 => ?_⟩
  exact ⟨M1, ds, _, _, rm1, r1, q1, fun d M' v H' e2 rm2 r2 q2 => k d M' v H' (e1.trans e2) rm2 r2 q2, fun n o fs M' H' e2 rm2 rx q2 => th.w n o fs σd M' σ H' (e2.slots (e1.slots rs)) rm2 rx q2⟩
/-! ### raise X('m') -/
/-- an own class of exceptions, without an __init__ of its own -/
structure ExF (K : PySem.W.Frag) (mg : Str → Option Value) (n : String) : Prop where
  ex : ∃ C, mg (Str.ofString n) = some (.ref C) ∧ PySem.W.excIn K C PySem.HandSPX.veTail "ValueError.__new__" = true ∧ PySem.W.keepIn K (.ref C) = true ∧ PySem.W.subIn K (.ref C) (.type "BaseException") = some true ∧ PySem.W.typeIn K (.ref C) = some (.type "type")
@[simp] def tdRaise (n : String) (Ψ : XS) : TSd := fun _ σ M => Ψ n none σ M
theorem ds_raise {n : String} {m : Str} {j : Nat} {p2 pos' : Pos} (F : ExF X.K X.mg n) (hc : X.calm = true) (th : Thr X J W Ψ) (hg : Gl X (Str.ofString n)) (hdb : (Str.ofString n == ("__debug__" : Str)) = false := by decide) :
    DS J X (.Raise (some (.Call (.Name (Str.ofString n) p) [.Constant (.str m) j p2] [] pos)) none pos') (tdRaise n Ψ) := by
  obtain ⟨C, gC, xC, kC, bC, tC⟩ := F.ex
  refine PS.imp (ps_raise hc th.tk (pmk_own PySem.F.excBase_ValueError xC gC kC (raises_own bC tC) hg hdb)) fun D σ H ⟨σd, M, Δ, rs, rm, h, _⟩ => ?_
  have := th.w n none none σd M σ H rs rm trivial h
  unfold clN at this
  rw [gC] at this
  exact this
/-! ### try .. except X: .. -/
/-- which class is under which -/
abbrev Sub := String → String → Option Bool
def SubOk (K : PySem.W.Frag) (mg : Str → Option Value) (sub : Sub) : Prop := ∀ n c b, sub n c = some b → PySem.W.exmOne K (clN mg n) (clN mg c) = some b
@[simp] def hands (sub : Sub) (Δ : Ed) : List (String × TSd) → XS
  | [] => fun _ _ _ _ => False
  | (c, t) :: r => fun n fs σ M => ∃ b, sub n c = some b ∧ if b = true then t Δ σ M else hands sub Δ r n fs σ M
@[simp] def tdTry (sub : Sub) (tb : XS → TSd) (hs : List (String × TSd)) : TSd := fun Δ σ M => tb (hands sub Δ hs) Δ σ M
/-- a body under any wish -/
def lTry (K : PySem.W.Frag) (mg : Str → Option Value) (t : XS → TSd) (W : WX) : TS := fun D σ H => ∃ J Ψ, (∀ n o fs σd M σ H, RepS K J M H σd σ → RepM K M H → RepX K M H o fs → Ψ n fs σd M → W (clN mg n) o σ H) ∧ lS K J (t Ψ) D σ H
def lSuite (K : PySem.W.Frag) (t : TSd) : Addr → Value → Option Addr → TS := fun _ _ _ D σ H => ∃ J, lS K J t D σ H
def clauses (K : PySem.W.Frag) (mg : Str → Option Value) (hs : List (String × TSd)) : List (Value × (Addr → Value → Option Addr → TS)) := hs.map fun p => (clN mg p.1, lSuite K p.2)
theorem hands_ok {K : PySem.W.Frag} {mg : Str → Option Value} {sub : Sub} (hS : SubOk K mg sub) {J : Jc} {D : Ends} {Δ : Ed} {M0 : Mm} {H0 : Hp}
    (hj : ∀ M H, J.p M H → Ev M0 H0 M H) {J2 : Jc} (hJ2 : ∀ {M H σd σ}, RepS K J M H σd σ → RepS K J2 M H σd σ)
    (kn : ∀ σd' M' σ' H', Ev M0 H0 M' H' → RepS K J2 M' H' σd' σ' → RepM K M' H' → Δ.nx σd' M' → D.nx σ' H') (kr : ∀ d M' v H', Ev M0 H0 M' H' → RepM K M' H' → Rep K M' H' d v → Δ.rt d M' → D.rt v H')
    (kb : ∀ σd' M' σ' H', Ev M0 H0 M' H' → RepS K J2 M' H' σd' σ' → RepM K M' H' → Δ.bk σd' M' → D.bk σ' H') (kc : ∀ σd' M' σ' H', Ev M0 H0 M' H' → RepS K J2 M' H' σd' σ' → RepM K M' H' → Δ.ct σd' M' → D.ct σ' H') :
    ∀ (hs : List (String × TSd)) n o fs σd M σ H, RepS K J M H σd σ → RepM K M H → RepX K M H o fs → hands sub Δ hs n fs σd M → wMany K (fun _ _ _ _ => False) D (clauses K mg hs) (clN mg n) o σ H
  | [], _, _, _, _, _, _, _, _, _, _, h => h
  | (c, t) :: r, n, o, fs, σd, M, σ, H, rs, rm, rx, h => by
    obtain ⟨b, hb, h⟩ := h
    refine ⟨b, hS n c b hb, fun e a ha => ?_, fun e => ?_⟩
    · rw [if_pos e] at h
      have z := hj M H rs.1.2
      refine ⟨J2, σd, M, Δ, hJ2 rs, rm, h, fun a b c d e2 => kn a b c d (z.trans e2), fun a b c d e2 => kr a b c d (z.trans e2), fun a b c d e2 => kb a b c d (z.trans e2), fun a b c d e2 => kc a b c d (z.trans e2)⟩
    · rw [if_neg (by rw [e]; exact Bool.false_ne_true)] at h
      exact hands_ok hS hj hJ2 kn kr kb kc r n o fs σd M σ H rs rm rx h
theorem NamesD {n : String} {C : Addr} (hg : Gl X (Str.ofString n)) (hm : X.mg (Str.ofString n) = some (.ref C)) (hdb : (Str.ofString n == ("__debug__" : Str)) = false := by decide) : Names X (Str.ofString n) (clN X.mg n) := by
  refine ⟨hg, hdb, .inl ?_⟩
  unfold clN
  rw [hm]
theorem NamesD2 {n : String} (hg : Gl X (Str.ofString n)) (h : ∃ C, X.mg (Str.ofString n) = some (.ref C)) (hdb : (Str.ofString n == ("__debug__" : Str)) = false := by decide) : Names X (Str.ofString n) (clN X.mg n) :=
  let ⟨_, hm⟩ := h
  NamesD hg hm hdb
/-- the clauses of a try -/
inductive HdsD (X : Cx) : List ExceptHandler → List (String × TSd) → Prop
  | nil : HdsD X [] []
  | cons {n : String} {t : TSd} {b₀ : Stmt} {suite : List Stmt} {np pos' : Pos} {hds : List ExceptHandler} {l : List (String × TSd)} (hc : Names X (Str.ofString n) (clN X.mg n))
      (hsu : ∀ (J : Jc) (a : Addr) (oe : Obj) (pn : List (Addr × Obj)), DSs J (X.suite a ((a, oe) :: pn)) (b₀ :: suite) t) (r : HdsD X hds l) :
      HdsD X (.ExceptHandler (some (.Name (Str.ofString n) np)) none (b₀ :: suite) pos' :: hds) ((n, t) :: l)
theorem HdsD.ok {hds : List ExceptHandler} {l : List (String × TSd)} (h : HdsD X hds l) : HdsOk X hds (clauses X.K X.mg l) := by
  induction h with
  | nil => exact .nil
  | cons hc hsu r ih => exact .cons hc (fun a oe cls d pn _ _ => ⟨fun pins s σ H D I ⟨J, q⟩ => (hsu J a oe pn).run pins s σ H D I q⟩) ih
theorem ds_try {sub : Sub} {body : List Stmt} {h₀ : ExceptHandler} {hds : List ExceptHandler} {l : List (String × TSd)} {tb : XS → TSd} (hS : SubOk X.K X.mg sub) (hs : X.stack = X.env :: X.outer) (hf : X.env.frame = some X.env.locals)
    (hb : ∀ (J : Jc) (W : WX) (Ψ : XS) (pn : List (Addr × Obj)) (xe : Value → Shared → Prop), Thr (X.tr pn xe) J W Ψ → PassesOwn (model X.prog X.w) X.A X.env xe → DSs J (X.tr pn xe) body (tb Ψ))
    (hh : HdsD X (h₀ :: hds) l) : DS J X (.Try body (h₀ :: hds) [] [] pos) (tdTry sub tb l) := by
  refine PS.imp (ps_try_many (tb := lTry X.K X.mg tb) hs hf (Wout := fun _ _ _ _ => False) takes_none5 (fun W pn xe tk po => ⟨fun pins s σ H D I ⟨J, Ψ, hw, q⟩ => (hb J W Ψ pn xe ⟨tk, hw⟩ po).run pins s σ H D I q⟩) hh.ok) fun D σ H h => ?_
  obtain ⟨σd, M, Δ, rs, rm, h, kn, kr, kb, kc⟩ := h
  refine ⟨Jc.of M H, hands sub Δ l, ?_, σd, M, Δ, ⟨⟨rs.1.1, .refl⟩, rs.2⟩, rm, h, ?_, kr, ?_, ?_⟩
  · exact hands_ok hS (J := Jc.of M H) (M0 := M) (H0 := H) (fun _ _ z => z) (J2 := ⟨fun M' H' => J.p M' H' ∧ Ev M H M' H', fun a b => ⟨J.cl a.1 b, a.2.trans b⟩⟩) (fun r => ⟨⟨r.1.1, J.cl rs.1.2 r.1.2, r.1.2⟩, r.2⟩)
      (fun a b c d e2 r => kn a b c d e2 ⟨⟨r.1.1, r.1.2.1⟩, r.2⟩) kr (fun a b c d e2 r => kb a b c d e2 ⟨⟨r.1.1, r.1.2.1⟩, r.2⟩) (fun a b c d e2 r => kc a b c d e2 ⟨⟨r.1.1, r.1.2.1⟩, r.2⟩) l
  · exact fun a b c d e2 r => kn a b c d e2 ⟨⟨r.1.1, J.cl rs.1.2 e2⟩, r.2⟩
  · exact fun a b c d e2 r => kb a b c d e2 ⟨⟨r.1.1, J.cl rs.1.2 e2⟩, r.2⟩
  · exact fun a b c d e2 r => kc a b c d e2 ⟨⟨r.1.1, J.cl rs.1.2 e2⟩, r.2⟩
end
end DL

set_option Elab.async false
set_option linter.all false
set_option maxRecDepth 100000
/-! DL16: instances of own classes: fields, methods, new ones; dicts of texts and ints: items, displays, comprehensions. -/
namespace DL
open PySem L2
/-! ### fields -/
/-- the address of a class -/
def clA (mg : Str → Option Value) (n : String) : Addr := match mg (Str.ofString n) with
  | some (.ref a) => a
  | _ => 0
def putD (f : Str) (d : D) : List (Str × D) → List (Str × D)
  | [] => [(f, d)]
  | (k, x) :: r => if k = f then (k, d) :: r else (k, x) :: putD f d r
section
variable {K : PySem.W.Frag} {M M' : Mm} {H H' : Hp}
theorem Fs.get {f : Str} {d : D} : ∀ {fs : List (Str × D)} {vs : List (Str × V)}, Fs K M H fs vs → fs.lookup f = some d → ∃ v, vs.lookup f = some v ∧ Rep K M H d v
  | [], vs, h, e => by cases e
  | (k, x) :: r, vs, h, e => by
    unfold Fs at h
    obtain ⟨v, vr, rfl, r1, r2⟩ := h
    rw [List.lookup_cons] at e ⊢
    cases hk : f == k with
    | true =>
      rw [hk] at e
      cases e
      exact ⟨v, rfl, r1⟩
    | false =>
      rw [hk] at e
      exact Fs.get r2 e
theorem Fs.out {f : Str} : ∀ {fs : List (Str × D)} {vs : List (Str × V)}, Fs K M H fs vs → fs.lookup f = none → vs.lookup f = none
  | [], vs, h, e => by unfold Fs at h; subst h; rfl
  | (k, x) :: r, vs, h, e => by
    unfold Fs at h
    obtain ⟨v, vr, rfl, r1, r2⟩ := h
    rw [List.lookup_cons] at e ⊢
    cases hk : f == k with
    | true => rw [hk] at e; cases e
    | false =>
      rw [hk] at e
      exact Fs.out r2 e
theorem Fs.length : ∀ {fs : List (Str × D)} {vs : List (Str × V)}, Fs K M H fs vs → fs.length = vs.length
  | [], vs, h => by unfold Fs at h; subst h; rfl
  | (k, x) :: r, vs, h => by
    unfold Fs at h
    obtain ⟨v, vr, rfl, r1, r2⟩ := h
    simp [Fs.length r2]
theorem Fs.put {f : Str} {d : D} {v : V} (rd : Rep K M H d v) : ∀ {fs : List (Str × D)} {vs : List (Str × V)}, Fs K M H fs vs → Fs K M H (putD f d fs) (putF f v vs)
  | [], vs, h => by unfold Fs at h; subst h; exact ⟨v, [], rfl, rd, rfl⟩
  | (k, x) :: r, vs, h => by
    unfold Fs at h
    obtain ⟨u, vr, rfl, r1, r2⟩ := h
    have ih := Fs.put (f := f) rd r2
    by_cases hk : k = f
    · have e1 : putD f d ((k, x) :: r) = (k, d) :: r := if_pos hk
      have e2 : putF f v ((k, u) :: vr) = (k, v) :: vr := if_pos hk
      rw [e1, e2]
      exact ⟨v, vr, rfl, rd, r2⟩
    · have e1 : putD f d ((k, x) :: r) = (k, x) :: putD f d r := if_neg hk
      have e2 : putF f v ((k, u) :: vr) = (k, u) :: putF f v vr := if_neg hk
      rw [e1, e2]
      exact ⟨u, _, rfl, r1, ih⟩
end
section
variable {X : Cx} {J : Jc} {o e : Expr} {es : List Expr} {to te : TD} {t : TAd} {pos p apos pos' : Pos}
@[simp] def tdFld (C : Addr) (to : TD) (f : Str) : TD := fun σ M Q => to σ M fun x M1 => ∃ p fs d, x = .ref p ∧ M1 p = some (.ins C fs) ∧ fs.lookup f = some d ∧ Q d M1
theorem de_fld {C : Addr} {f : Str} (c : Cls X.K C) (n : NoAttr X.K C f) (ho : DE J X o to) (hb : attributeBase o f X.env (eval o X.env) = eval o X.env := by rfl) : DE J X (.Attribute o f pos) (tdFld C to f) := by
  refine PE.imp (pe_fld ho hb) fun σ H Q ⟨σd, M, Φ, rs, rm, h, k⟩ => ?_
  refine ⟨σd, M, _, rs, rm, h, fun x M1 v H1 e1 rm1 r1 q1 => ?_⟩
  obtain ⟨p, fs, d, rfl, hp, hl, q1⟩ := q1
  obtain rfl := rep_ref.mp r1
  obtain ⟨dx, vs, h1, h2⟩ := rm1 p _ hp
  obtain ⟨v, h3, h4⟩ := h2.get hl
  exact ⟨p, C, dx, vs, v, rfl, h1, c, n, h3, k d M1 v H1 e1 rm1 h4 q1⟩
@[simp] def tdFldS (C : Addr) (to te : TD) (f : Str) : TSd := fun Δ σ M => te σ M fun d M1 => to σ M1 fun x M2 => ∃ p fs, x = .ref p ∧ M2 p = some (.ins C fs) ∧ fs.length < 1000 ∧ Δ.nx σ (mu M2 p (.ins C (putD f d fs)))
theorem ds_fld {C : Addr} {f : Str} (c : Cls X.K C) (n : NoAttr X.K C f) (ho : DE J X o to) (he : DE J X e te) (hs : swapsWith e (some (.Attribute o f pos')) pos.line X.env = pure false := by rfl) : DS J X (.Assign [.Attribute o f pos'] e pos) (tdFldS C to te f) := by
  refine PS.imp (ps_fld ho he hs) fun D σ H ⟨σd, M, Δ, rs, rm, h, kn, _⟩ => ?_
  refine ⟨σd, M, _, rs, rm, h, fun d M1 y H1 e1 rm1 r1 q1 => ?_⟩
  refine ⟨σd, M1, _, e1.slots rs, rm1, q1, fun x M2 v H2 e2 rm2 r2 q2 => ?_⟩
  obtain ⟨p, fs, rfl, hp, hl, q2⟩ := q2
  obtain rfl := rep_ref.mp r2
  obtain ⟨dx, vs, h1, h2⟩ := rm2 p _ hp
  have ns := notStillI hp
  have eS : Ev M2 H2 (mu M2 p (.ins C (putD f d fs))) (upd H2 p (.ins C dx (putF f y vs))) := .setM ns
  refine ⟨p, C, dx, vs, rfl, h1, c, n, by rw [← h2.length]; exact hl, ?_⟩
  exact kn σd _ σ _ (e1.trans (e2.trans eS)) ((e2.trans eS).slots (e1.slots rs)) (rm2.setM ns ⟨dx, _, upd_same, eS.fs (h2.put (e2.rep _ _ r1))⟩) q2
@[simp] def tdFldAug (C : Addr) (to te : TD) (f : Str) (g : Int → Int → Int) : TSd := fun Δ σ M => to σ M fun x M1 => ∃ p fs a, x = .ref p ∧ M1 p = some (.ins C fs) ∧ fs.lookup f = some (.int a) ∧
  te σ M1 fun y M2 => ∃ b fs', y = .int b ∧ M2 p = some (.ins C fs') ∧ fs'.length < 1000 ∧ Δ.nx σ (mu M2 p (.ins C (putD f (.int (g a b)) fs')))
theorem ds_fldAdd {C : Addr} {f : Str} (c : Cls X.K C) (n : NoAttr X.K C f) (ho : DE J X o to) (he : DE J X e te) : DS J X (.AugAssign (.Attribute o f p) .Add e pos) (tdFldAug C to te f fun i j => i + j) := by
  refine PS.imp (ps_fldaug ho he in_add) fun D σ H ⟨σd, M, Δ, rs, rm, h, kn, _⟩ => ?_
  refine ⟨σd, M, _, rs, rm, h, fun x M1 v H1 e1 rm1 r1 q1 => ?_⟩
  obtain ⟨p, fs, a, rfl, hp, hl, q1⟩ := q1
  obtain rfl := rep_ref.mp r1
  obtain ⟨dx, vs, h1, h2⟩ := rm1 p _ hp
  obtain ⟨v, h3, h4⟩ := h2.get hl
  obtain rfl := rep_int.mp h4
  refine ⟨p, C, dx, vs, _, rfl, h1, c, n, h3, σd, M1, _, e1.slots rs, rm1, q1, fun y M2 v H2 e2 rm2 r2 q2 => ?_⟩
  obtain ⟨b, fs', rfl, hp2, hl2, q2⟩ := q2
  obtain rfl := rep_int.mp r2
  obtain ⟨dx2, vs2, h5, h6⟩ := rm2 p _ hp2
  have ns := notStillI hp2
  have eS : Ev M2 H2 (mu M2 p (.ins C (putD f (.int (a + b)) fs'))) (upd H2 p (.ins C dx2 (putF f (.int (a + b)) vs2))) := .setM ns
  refine ⟨a, b, rfl, rfl, dx2, vs2, h5, by rw [← h6.length]; exact hl2, ?_⟩
  exact kn σd _ σ _ (e1.trans (e2.trans eS)) ((e2.trans eS).slots (e1.slots rs)) (rm2.setM ns ⟨dx2, _, upd_same, eS.fs (h6.put (rep_int.mpr rfl))⟩) q2
/-! ### methods -/
/-- a method as it stands in its class, with its promise -/
def Mth (P : Program) (w : World) (K : PySem.W.Frag) (mg : Str → Option Value) (base : Heap) (CX : CXT) (k : Nat) (C : Addr) (m : Str) (ps : List Str) (sp : SpD) : Prop :=
  ∃ f fd, FnOk P w K mg base CX k f fd ps (lSp K mg sp) ∧ Cls K C ∧ Meth K C m f ∧ Binds K fd ps []
theorem Mth.mono {P : Program} {w : World} {K : PySem.W.Frag} {mg : Str → Option Value} {base : Heap} {CX : CXT} {k j : Nat} {C : Addr} {m : Str} {ps : List Str} {sp : SpD} (G : Mth P w K mg base CX k C m ps sp) (h : k ≤ j) : Mth P w K mg base CX j C m ps sp :=
  let ⟨f, fd, a, b⟩ := G
  ⟨f, fd, a.mono h, b⟩
theorem Mth.imp {P : Program} {w : World} {K : PySem.W.Frag} {mg : Str → Option Value} {base : Heap} {CX : CXT} {k : Nat} {C : Addr} {m : Str} {ps : List Str} {sp sp' : SpD} (G : Mth P w K mg base CX k C m ps sp) (h : ∀ ds M Q E, sp' ds M Q E → sp ds M Q E) : Mth P w K mg base CX k C m ps sp' :=
  let ⟨f, fd, a, b⟩ := G
  ⟨f, fd, a.imp fun vs H Q E ⟨M, ds, Φ, Ψ, h1, h2, h3, h4⟩ => ⟨M, ds, Φ, Ψ, h1, h2, h ds M Φ Ψ h3, h4⟩, b⟩
/-- o.m(..), what it raises by Ψ -/
@[simp] def tdMeth (C : Addr) (m : Str) (sp : SpD) (Ψ : XS) (to : TD) (t : TAd) : TD := fun σ M Q => to σ M fun x M1 => ∃ p fs, x = .ref p ∧ M1 p = some (.ins C fs) ∧ fs.lookup m = none ∧ t σ M1 fun ds M2 => sp (.ref p :: ds) M2 Q fun n fs' M3 => Ψ n fs' σ M3
theorem lMeth_of {C : Addr} {m : Str} {sp : SpD} {Ψ : XS} {σ : L2.St} {H : Hp} {Q : VK} {E : St → XK} (hE : ∀ n o fs σd M σ H, RepS X.K J M H σd σ → RepM X.K M H → RepX X.K M H o fs → Ψ n fs σd M → E σ (clN X.mg n) o H)
    (h : lE X.K J (tdMeth C m sp Ψ to t) σ H Q) : tMeth C m (lSp X.K X.mg sp) [] (E σ) (lE X.K J to) (lA X.K J t) σ H Q := by
  obtain ⟨σd, M, Φ, rs, rm, h, k⟩ := h
  refine ⟨σd, M, _, rs, rm, h, fun x M1 v H1 e1 rm1 r1 q1 => ?_⟩
  obtain ⟨p, fs, rfl, hp, hl, q1⟩ := q1
  obtain rfl := rep_ref.mp r1
  obtain ⟨dx, vs, h1, h2⟩ := rm1 p _ hp
  refine ⟨p, dx, vs, rfl, h1, h2.out hl, σd, M1, _, e1.slots rs, rm1, q1, fun ds M2 us H2 e2 rm2 r2 q2 => ?_⟩
  show lSp X.K X.mg sp (V.ref p :: (us ++ [])) H2 Q (E σ)
  rw [List.append_nil]
  exact ⟨M2, .ref p :: ds, _, _, rm2, .cons (rep_ref.mpr rfl) r2, q2, fun d M' v H' e3 rm3 r3 q3 => k d M' v H' (e1.trans (e2.trans e3)) rm3 r3 q3, fun n o fs M' H' e3 rm3 rx q3 => hE n o fs σd M' σ H' (e3.slots (e2.slots (e1.slots rs))) rm3 rx q3⟩
theorem lMeth0_of {C : Addr} {m : Str} {sp : SpD} {Ψ : XS} {σ : L2.St} {H : Hp} {Q : VK} {E : St → XK} (hE : ∀ n o fs σd M σ H, RepS X.K J M H σd σ → RepM X.K M H → RepX X.K M H o fs → Ψ n fs σd M → E σ (clN X.mg n) o H)
    (h : lE X.K J (tdMeth C m sp Ψ to tdNil) σ H Q) : tMeth C m (lSp X.K X.mg sp) [] (E σ) (lE X.K J to) tNil σ H Q := by
  obtain ⟨σd, M, Φ, rs, rm, h, k⟩ := h
  refine ⟨σd, M, _, rs, rm, h, fun x M1 v H1 e1 rm1 r1 q1 => ?_⟩
  obtain ⟨p, fs, rfl, hp, hl, q1⟩ := q1
  obtain rfl := rep_ref.mp r1
  obtain ⟨dx, vs, h1, h2⟩ := rm1 p _ hp
  refine ⟨p, dx, vs, rfl, h1, h2.out hl, ?_⟩
  exact ⟨M1, [.ref p], _, _, rm1, .cons (rep_ref.mpr rfl) .nil, q1, fun d M' v H' e3 rm3 r3 q3 => k d M' v H' (e1.trans e3) rm3 r3 q3, fun n o fs M' H' e3 rm3 rx q3 => hE n o fs σd M' σ H' (e3.slots (e1.slots rs)) rm3 rx q3⟩
abbrev E00 : St → XK := fun _ => E0
theorem de_meth {pl : Sem Bool} {k j : Nat} {C : Addr} {m : Str} {ps : List Str} {sp : SpD} (G : Mth X.prog X.w X.K X.mg X.base CX0 k C m ps sp) (hr : Room j X.A) (ho : DE J X o to) (ha : DA J X (e :: es) t) (hj : k ≤ j := by omega)
    (hst : starEach (e :: es) X.env = (false, eval e X.env) :: starEach es X.env := by rfl) (hpl : (backTo pos (starEach es X.env)).any (·.1) = false := by rfl)
    (ht : eval (.Call (.Attribute o m apos) (e :: es) [] pos) X.env = (do
      let ov ← eval o X.env
      standAt apos.atName
      let (f, first) ← holding [ov] (getMethod ov m pl)
      callWith pos f first (backTo pos (starEach (e :: es) X.env)) (backToKw pos (keywordEach [] X.env))) := by rfl) : DE J X (.Call (.Attribute o m apos) (e :: es) [] pos) (tdMeth C m sp xs0 to t) := by
  obtain ⟨f, fd, F, c, hm, hb⟩ := G
  exact PE.imp (pe_meth ho c hm F (hr.mono hj) hb .nil pass0 ha hst hpl ht) fun σ H Q h => lMeth_of (E := E00) (fun _ _ _ _ _ _ _ _ _ _ z => z.elim) h
theorem de_meth0 {pl : Sem Bool} {k j : Nat} {C : Addr} {m : Str} {ps : List Str} {sp : SpD} (G : Mth X.prog X.w X.K X.mg X.base CX0 k C m ps sp) (hr : Room j X.A) (ho : DE J X o to) (hj : k ≤ j := by omega)
    (ht : eval (.Call (.Attribute o m apos) [] [] pos) X.env = (do
      let ov ← eval o X.env
      standAt apos.atName
      let (f, first) ← holding [ov] (getMethod ov m pl)
      callWith pos f first (backTo pos (starEach [] X.env)) (backToKw pos (keywordEach [] X.env))) := by rfl) : DE J X (.Call (.Attribute o m apos) [] [] pos) (tdMeth C m sp xs0 to tdNil) := by
  obtain ⟨f, fd, F, c, hm, hb⟩ := G
  exact PE.imp (pe_meth0 ho c hm F (hr.mono hj) hb .nil pass0 ht) fun σ H Q h => lMeth0_of (E := E00) (fun _ _ _ _ _ _ _ _ _ _ z => z.elim) h
/-! .. that may raise -/
section
variable {CX : CXT} {k : Nat} {f C : Addr} {fd : FuncData} {ps : List Str} {sp : Sp} {E : St → XK} {m : Str} {ta : TE} {tA : TA} {W : WX} {Ψ : XS}
/-- the call of a method, its exceptions taken at the slots -/
theorem pe_methAt {pl : Sem Bool} (he : PE X o ta) (c : Cls X.K C) (hm : Meth X.K C m f) (F : FnOk X.prog X.w X.K X.mg X.base CX k f fd ps sp) (hr : Room k X.A) (hb : Binds X.K fd ps []) (hx : ∀ σ, PassesAt CX X σ (E σ)) (ha : PA X (e :: es) tA)
    (hst : starEach (e :: es) X.env = (false, eval e X.env) :: starEach es X.env) (hpl : (backTo pos (starEach es X.env)).any (·.1) = false)
    (ht : eval (.Call (.Attribute o m apos) (e :: es) [] pos) X.env = (do
      let ov ← eval o X.env
      standAt apos.atName
      let (f, first) ← holding [ov] (getMethod ov m pl)
      callWith pos f first (backTo pos (starEach (e :: es) X.env)) (backToKw pos (keywordEach [] X.env)))) :
    PE X (.Call (.Attribute o m apos) (e :: es) [] pos) (fun σ H Q => tMeth C m sp [] (E σ) ta tA σ H Q) := ⟨fun pins s σ H Q I h => by
  refine PySem.W.methodCall_KW (pl := pl) (thn (he.run pins s σ H _ I h) fun u s1 z => ?_) ht
  obtain ⟨x, H1, J1, rx, a, dx, fs, ex, ea, lk, more⟩ := z
  subst ex
  cases rx
  refine getmeth_ok J1 ea c hm lk ?_
  refine PySem.W.callWith_K (first := [.ref a]) (h₀ := X.base) J1.ok.mod.kin hm.kp (thn (ha.run pos pins s1 σ H1 _ J1 more) fun us s2 z2 => ?_) hst hpl
  obtain ⟨vs, H2, J2, rv, last⟩ := z2
  refine ⟨J2.kIn, ?_⟩
  have last : sp (V.ref a :: (vs ++ [])) H2 Q (E σ) := last
  rw [List.append_nil] at last
  exact run_fnS (us := .ref a :: us) (vs := .ref a :: vs) F hr hb (hx σ) J2 (.cons rfl rv) last⟩
theorem pe_methAt0 {pl : Sem Bool} (he : PE X o ta) (c : Cls X.K C) (hm : Meth X.K C m f) (F : FnOk X.prog X.w X.K X.mg X.base CX k f fd ps sp) (hr : Room k X.A) (hb : Binds X.K fd ps []) (hx : ∀ σ, PassesAt CX X σ (E σ))
    (ht : eval (.Call (.Attribute o m apos) [] [] pos) X.env = (do
      let ov ← eval o X.env
      standAt apos.atName
      let (f, first) ← holding [ov] (getMethod ov m pl)
      callWith pos f first (backTo pos (starEach [] X.env)) (backToKw pos (keywordEach [] X.env)))) :
    PE X (.Call (.Attribute o m apos) [] [] pos) (fun σ H Q => tMeth C m sp [] (E σ) ta tNil σ H Q) := ⟨fun pins s σ H Q I h => by
  refine PySem.W.methodCall_KW (pl := pl) (thn (he.run pins s σ H _ I h) fun u s1 z => ?_) ht
  obtain ⟨x, H1, J1, rx, a, dx, fs, ex, ea, lk, more⟩ := z
  subst ex
  cases rx
  refine getmeth_ok J1 ea c hm lk ?_
  exact PySem.W.callWith_K0 (first := [.ref a]) J1.kIn hm.kp (run_fnS (us := [.ref a]) (vs := [.ref a]) F hr hb (hx σ) J1 (.cons rfl .nil) more)⟩
end
theorem de_methS {pl : Sem Bool} {k j : Nat} {C : Addr} {m : Str} {ps : List Str} {sp : SpD} {W : WX} {Ψ : XS} (G : Mth X.prog X.w X.K X.mg X.base (L2.CX X.prog X.w) k C m ps sp) (hr : Room j X.A) (th : Thr X J W Ψ) (ho : DE J X o to) (ha : DA J X (e :: es) t) (hj : k ≤ j := by omega)
    (hst : starEach (e :: es) X.env = (false, eval e X.env) :: starEach es X.env := by rfl) (hpl : (backTo pos (starEach es X.env)).any (·.1) = false := by rfl)
    (ht : eval (.Call (.Attribute o m apos) (e :: es) [] pos) X.env = (do
      let ov ← eval o X.env
      standAt apos.atName
      let (f, first) ← holding [ov] (getMethod ov m pl)
      callWith pos f first (backTo pos (starEach (e :: es) X.env)) (backToKw pos (keywordEach [] X.env))) := by rfl) : DE J X (.Call (.Attribute o m apos) (e :: es) [] pos) (tdMeth C m sp Ψ to t) := by
  obtain ⟨f, fd, F, c, hm, hb⟩ := G
  exact PE.imp (pe_methAt (E := WE W) ho c hm F (hr.mono hj) hb (fun σ => passAt th.tk σ) ha hst hpl ht) fun σ H Q h => lMeth_of (E := WE W) th.w h
theorem de_methS0 {pl : Sem Bool} {k j : Nat} {C : Addr} {m : Str} {ps : List Str} {sp : SpD} {W : WX} {Ψ : XS} (G : Mth X.prog X.w X.K X.mg X.base (L2.CX X.prog X.w) k C m ps sp) (hr : Room j X.A) (th : Thr X J W Ψ) (ho : DE J X o to) (hj : k ≤ j := by omega)
    (ht : eval (.Call (.Attribute o m apos) [] [] pos) X.env = (do
      let ov ← eval o X.env
      standAt apos.atName
      let (f, first) ← holding [ov] (getMethod ov m pl)
      callWith pos f first (backTo pos (starEach [] X.env)) (backToKw pos (keywordEach [] X.env))) := by rfl) : DE J X (.Call (.Attribute o m apos) [] [] pos) (tdMeth C m sp Ψ to tdNil) := by
  obtain ⟨f, fd, F, c, hm, hb⟩ := G
  exact PE.imp (pe_methAt0 (E := WE W) ho c hm F (hr.mono hj) hb (fun σ => passAt th.tk σ) ht) fun σ H Q h => lMeth0_of (E := WE W) th.w h
/-! ### new instances -/
/-- a class as it stands, with the promise of its __init__ -/
def Mkr (P : Program) (w : World) (K : PySem.W.Frag) (mg : Str → Option Value) (base : Heap) (CX : CXT) (k : Nat) (n : String) (ps : List Str) (sp : SpD) : Prop :=
  ∃ C f fd, mg (Str.ofString n) = some (.ref C) ∧ FnOk P w K mg base CX k f fd ps (lSp K mg sp) ∧ Mk K C f ∧ Binds K fd ps []
theorem Mkr.mono {P : Program} {w : World} {K : PySem.W.Frag} {mg : Str → Option Value} {base : Heap} {CX : CXT} {k j : Nat} {n : String} {ps : List Str} {sp : SpD} (G : Mkr P w K mg base CX k n ps sp) (h : k ≤ j) : Mkr P w K mg base CX j n ps sp :=
  let ⟨C, f, fd, e, a, b⟩ := G
  ⟨C, f, fd, e, a.mono h, b⟩
theorem Mkr.imp {P : Program} {w : World} {K : PySem.W.Frag} {mg : Str → Option Value} {base : Heap} {CX : CXT} {k : Nat} {n : String} {ps : List Str} {sp sp' : SpD} (G : Mkr P w K mg base CX k n ps sp) (h : ∀ ds M Q E, sp' ds M Q E → sp ds M Q E) : Mkr P w K mg base CX k n ps sp' :=
  let ⟨C, f, fd, e, a, b⟩ := G
  ⟨C, f, fd, e, a.imp fun vs H Q E ⟨M, ds, Φ, Ψ, h1, h2, h3, h4⟩ => ⟨M, ds, Φ, Ψ, h1, h2, h ds M Φ Ψ h3, h4⟩, b⟩
/-- C(..) -/
@[simp] def tdMake (C : Addr) (sp : SpD) (Ψ : XS) (t : TAd) : TD := fun σ M Q => t σ M fun ds M1 => ∀ p, M1 p = none → sp (.ref p :: ds) (mu M1 p (.ins C [])) (fun _ M2 => Q (.ref p) M2) fun n fs M3 => Ψ n fs σ M3
theorem lMake_of {C : Addr} {sp : SpD} {Ψ : XS} {σ : L2.St} {H : Hp} {Q : VK} {E : St → XK} (hN : ∀ ds M Q E, sp ds M Q E → sp ds M (fun d M2 => d = .non ∧ Q d M2) E) (hE : ∀ n o fs σd M σ H, RepS X.K J M H σd σ → RepM X.K M H → RepX X.K M H o fs → Ψ n fs σd M → E σ (clN X.mg n) o H)
    (h : lE X.K J (tdMake C sp Ψ t) σ H Q) : tMake C (lSp X.K X.mg sp) [] (E σ) (lA X.K J t) σ H Q := by
  obtain ⟨σd, M, Φ, rs, rm, h, k⟩ := h
  refine ⟨σd, M, _, rs, rm, h, fun ds M1 us H1 e1 rm1 r1 q1 => ?_⟩
  intro x dx hx hdx hne
  show lSp X.K X.mg sp (V.ref x :: (us ++ [])) _ _ (E σ)
  rw [List.append_nil]
  have eA : Ev M1 H1 M1 (upd H1 dx (.own x)) := .new hdx
  have rmA : RepM X.K M1 (upd H1 dx (.own x)) := rm1.new hdx
  have hx2 : upd H1 dx (.own x) x = none := by rw [upd_ne (Ne.symm hne)]; exact hx
  have eB : Ev M1 (upd H1 dx (.own x)) (mu M1 x (.ins C [])) (upd (upd H1 dx (.own x)) x (.ins C dx [])) := .newM hx2
  have rmB : RepM X.K (mu M1 x (.ins C [])) (upd (upd H1 dx (.own x)) x (.ins C dx [])) := rmA.newM hx2 ⟨dx, [], upd_same, rfl⟩
  have e2 := eA.trans eB
  refine ⟨_, .ref x :: ds, _, _, rmB, .cons (rep_ref.mpr rfl) (e2.reps _ _ r1), hN _ _ _ _ (q1 x (rm1.free hx)), fun d M' v H' e3 rm3 r3 q3 => ?_, fun n o fs M' H' e3 rm3 rx q3 => hE n o fs σd M' σ H' (e3.slots (e2.slots (e1.slots rs))) rm3 rx q3⟩
  obtain ⟨ed, q3⟩ := q3
  subst ed
  exact ⟨rep_non.mp r3, k (.ref x) M' (.ref x) H' (e1.trans (e2.trans e3)) rm3 (rep_ref.mpr rfl) q3⟩
theorem de_make {k j : Nat} {n : String} {ps : List Str} {sp : SpD} (G : Mkr X.prog X.w X.K X.mg X.base CX0 k n ps sp) (hr : Room (j + 1) X.A) (hN : ∀ ds M Q E, sp ds M Q E → sp ds M (fun d M2 => d = .non ∧ Q d M2) E) (hg : Gl X (Str.ofString n)) (ha : DA J X (e :: es) t) (hj : k ≤ j := by omega)
    (hdb : (Str.ofString n == ("__debug__" : Str)) = false := by decide) (he : starEach (e :: es) X.env = (false, eval e X.env) :: starEach es X.env := by rfl) (hpl : (backTo pos (starEach es X.env)).any (·.1) = false := by rfl) :
    DE J X (.Call (.Name (Str.ofString n) p) (e :: es) [] pos) (tdMake (clA X.mg n) sp xs0 t) := by
  obtain ⟨C, f, fd, hm, F, M, hb⟩ := G
  have eC : clA X.mg n = C := by unfold clA; rw [hm]
  rw [eC]
  exact PE.imp (pe_make M F (hr.mono (by omega)) hg hm hb .nil pass0 ha hdb he hpl) fun σ H Q h => lMake_of (E := E00) hN (fun _ _ _ _ _ _ _ _ _ _ z => z.elim) h
end
/-! ### dicts -/
def valKD (kvs : List (Key × D)) (k : Key) : Option D := (kvs.find? fun kv => decide (kv.1 = k)).map (·.2)
def putKD (kvs : List (Key × D)) (k : Key) (d : D) : List (Key × D) :=
  if (kvs.any fun kv => decide (kv.1 = k)) = true then kvs.map (fun kv => if kv.1 = k then (kv.1, d) else kv) else kvs ++ [(k, d)]
section
variable {K : PySem.W.Frag} {M : Mm} {H : Hp}
theorem Ks.length : ∀ {fs : List (Key × D)} {vs : List (Key × V)}, Ks K M H fs vs → fs.length = vs.length
  | [], vs, h => by unfold Ks at h; subst h; rfl
  | (k, x) :: r, vs, h => by
    unfold Ks at h
    obtain ⟨v, vr, rfl, r1, r2⟩ := h
    simp [Ks.length r2]
theorem Ks.any {f : Key} : ∀ {fs : List (Key × D)} {vs : List (Key × V)}, Ks K M H fs vs → (fs.any fun kv => decide (kv.1 = f)) = vs.any fun kv => decide (kv.1 = f)
  | [], vs, h => by unfold Ks at h; subst h; rfl
  | (k, x) :: r, vs, h => by
    unfold Ks at h
    obtain ⟨v, vr, rfl, r1, r2⟩ := h
    rw [List.any_cons, List.any_cons, Ks.any r2]
theorem Ks.get {f : Key} : ∀ {fs : List (Key × D)} {vs : List (Key × V)}, Ks K M H fs vs → (∀ d, valKD fs f = some d → ∃ v, valV vs f = some v ∧ Rep K M H d v) ∧ (valKD fs f = none → valV vs f = none)
  | [], vs, h => by
    unfold Ks at h
    subst h
    refine ⟨fun d e => ?_, fun _ => rfl⟩
    have e : (none : Option D) = some d := e
    cases e
  | (k, x) :: r, vs, h => by
    unfold Ks at h
    obtain ⟨v, vr, rfl, r1, r2⟩ := h
    have ih := Ks.get (f := f) r2
    by_cases hk : k = f
    · have e1 : valKD ((k, x) :: r) f = some x := by simp [valKD, hk]
      have e2 : valV ((k, v) :: vr) f = some v := by simp [valV, hk]
      rw [e1, e2]
      exact ⟨fun d e => by cases e; exact ⟨v, rfl, r1⟩, fun e => by cases e⟩
    · have e1 : valKD ((k, x) :: r) f = valKD r f := by simp [valKD, hk]
      have e2 : valV ((k, v) :: vr) f = valV vr f := by simp [valV, hk]
      rw [e1, e2]
      exact ih
theorem Ks.repl {f : Key} {d : D} {u : V} (rd : Rep K M H d u) : ∀ {fs : List (Key × D)} {vs : List (Key × V)}, Ks K M H fs vs → Ks K M H (fs.map fun kv => if kv.1 = f then (kv.1, d) else kv) (vs.map fun kv => if kv.1 = f then (kv.1, u) else kv)
  | [], vs, h => by unfold Ks at h; subst h; rfl
  | (k, x) :: r, vs, h => by
    unfold Ks at h
    obtain ⟨v, vr, rfl, r1, r2⟩ := h
    have ih := Ks.repl (f := f) rd r2
    rw [List.map_cons, List.map_cons]
    by_cases hk : k = f
    · rw [if_pos hk, if_pos hk]
      exact ⟨u, _, rfl, rd, ih⟩
    · rw [if_neg hk, if_neg hk]
      exact ⟨v, _, rfl, r1, ih⟩
theorem Ks.snoc {f : Key} {d : D} {u : V} (rd : Rep K M H d u) : ∀ {fs : List (Key × D)} {vs : List (Key × V)}, Ks K M H fs vs → Ks K M H (fs ++ [(f, d)]) (vs ++ [(f, u)])
  | [], vs, h => by unfold Ks at h; subst h; exact ⟨u, [], rfl, rd, rfl⟩
  | (k, x) :: r, vs, h => by
    unfold Ks at h
    obtain ⟨v, vr, rfl, r1, r2⟩ := h
    exact ⟨v, _, rfl, r1, Ks.snoc rd r2⟩
theorem Ks.put {f : Key} {d : D} {u : V} (rd : Rep K M H d u) {fs : List (Key × D)} {vs : List (Key × V)} (h : Ks K M H fs vs) : Ks K M H (putKD fs f d) (putK vs f u) := by
  unfold putKD putK
  rw [h.any]
  split
  · exact h.repl rd
  · exact h.snoc rd
end
theorem keyD_kV {K : PySem.W.Frag} {M : Mm} {H : Hp} {y : D} {k : Key} {v : V} (h : keyD y = some k) (r : Rep K M H y v) : v = kV k := by
  cases y with
  | int i => cases h; exact rep_int.mp r
  | str x => cases h; exact (rep_str.mp r).1
  | _ => cases h
section
variable {X : Cx} {J : Jc} {o i e : Expr} {to ti te : TD} {pos pos' : Pos}
/-- a dict's entries, walked or not -/
@[simp] def dicOf : Option MO → Option (List (Key × D))
  | some (.dic l) => some l
  | some (.dicL l) => some l
  | _ => none
theorem rd_dic {K : PySem.W.Frag} {M : Mm} {H : Hp} {p : Addr} {kvs : List (Key × D)} (rm : RepM K M H) (h : dicOf (M p) = some kvs) : ∃ vs, Rd H p (.dK vs) ∧ Ks K M H kvs vs := by
  cases e : M p with
  | none => rw [e] at h; cases h
  | some o =>
    rw [e] at h
    cases o with
    | dic l =>
      cases h
      obtain ⟨vs, h1, h2⟩ := rm p _ e
      exact ⟨vs, .inl h1, h2⟩
    | dicL l =>
      cases h
      obtain ⟨od, vs, h1, h2⟩ := rm p _ e
      exact ⟨vs, .inr ⟨od, h1⟩, h2⟩
    | _ => cases h
/-- d[k] -/
@[simp] def tdDGet (to ti : TD) : TD := fun σ M Q => to σ M fun x M1 => ti σ M1 fun y M2 => ∃ p kvs k d, x = .ref p ∧ dicOf (M2 p) = some kvs ∧ keyD y = some k ∧ valKD kvs k = some d ∧ Q d M2
theorem de_dget (hu : X.A.units + 1 < cLine) (ho : DE J X o to) (hi : DE J X i ti) (hs : NoSl i := by intro _ _; rfl) : DE J X (.Subscript o i pos) (tdDGet to ti) := by
  refine PE.imp (pe_dget hu ho hi hs) fun σ H Q ⟨σd, M, Φ, rs, rm, h, k⟩ => ?_
  refine ⟨σd, M, _, rs, rm, h, fun x M1 v H1 e1 rm1 r1 q1 => ?_⟩
  refine ⟨σd, M1, _, e1.slots rs, rm1, q1, fun y M2 u H2 e2 rm2 r2 q2 => ?_⟩
  obtain ⟨p, kvs, key, d, rfl, hp, hk, hv, q2⟩ := q2
  obtain rfl := rep_ref.mp r1
  obtain ⟨vs, h1, h2⟩ := rd_dic rm2 hp
  obtain ⟨w, h3, h4⟩ := h2.get.1 d hv
  obtain rfl := keyD_kV hk r2
  exact ⟨p, w, rfl, .inl ⟨vs, key, h1, rfl, h3.symm⟩, k d M2 w H2 (e1.trans e2) rm2 h4 q2⟩
/-- d[k] = e -/
@[simp] def tdDPut (to ti te : TD) : TSd := fun Δ σ M => te σ M fun d M1 => to σ M1 fun x M2 => ti σ M2 fun y M3 => ∃ p kvs k, x = .ref p ∧ M3 p = some (.dic kvs) ∧ keyD y = some k ∧ kvs.length < sizeLine ∧ Δ.nx σ (mu M3 p (.dic (putKD kvs k d)))
theorem ds_dput (hu : X.A.units + 1 < cLine) (ho : DE J X o to) (hi : DE J X i ti) (he : DE J X e te) (hs : swapsWith e (some (.Subscript o i pos')) pos.line X.env = pure false := by rfl) : DS J X (.Assign [.Subscript o i pos'] e pos) (tdDPut to ti te) := by
  refine PS.imp (ps_dput hu ho hi he hs) fun D σ H ⟨σd, M, Δ, rs, rm, h, kn, _⟩ => ?_
  refine ⟨σd, M, _, rs, rm, h, fun d M1 w H1 e1 rm1 r1 q1 => ?_⟩
  refine ⟨σd, M1, _, e1.slots rs, rm1, q1, fun x M2 v H2 e2 rm2 r2 q2 => ?_⟩
  refine ⟨σd, M2, _, e2.slots (e1.slots rs), rm2, q2, fun y M3 u H3 e3 rm3 r3 q3 => ?_⟩
  obtain ⟨p, kvs, key, rfl, hp, hk, hl, q3⟩ := q3
  obtain rfl := rep_ref.mp r2
  obtain ⟨vs, h1, h2⟩ := rm3 p _ hp
  obtain rfl := keyD_kV hk r3
  have ns := notStillK hp
  have eS : Ev M3 H3 (mu M3 p (.dic (putKD kvs key d))) (upd H3 p (.dK (putK vs key w))) := .setM ns
  refine ⟨p, _, rfl, DPut.k h1 (by rw [← h2.length]; exact hl), ?_⟩
  have e4 := e2.trans (e3.trans eS)
  exact kn σd _ σ _ (e1.trans e4) (e4.slots (e1.slots rs)) (rm3.setM ns ⟨_, upd_same, eS.ks (h2.put ((e2.trans e3).rep _ _ r1))⟩) q3
/-- k in d -/
@[simp] def tdDIn (neg : Bool) (ti to : TD) : TD := fun σ M Q => ti σ M fun y M1 => to σ M1 fun x M2 => ∃ p kvs k, x = .ref p ∧ dicOf (M2 p) = some kvs ∧ keyD y = some k ∧ Q (.bl (neg ^^ (valKD kvs k).isSome)) M2
/-! comprehensions -/
/-- the turns of a dict comprehension -/
def dcD (g : Tgt) (tt : TTd) (tk tv : TD) (stay : Mm → Prop) (σw : Sg) : List D → List (Key × D) → Mm → (List (Key × D) → Mm → Prop) → Prop
  | [], acc, M, Φ => stay M ∧ Φ acc M
  | d :: ds, acc, M, Φ => stay M ∧ ∃ σ', setT g d σw = some σ' ∧ tt σ' M fun b M1 => if b = true then tk σ' M1 fun y M2 => tv σ' M2 fun z M3 => ∃ k, keyD y = some k ∧ acc.length < sizeLine ∧ dcD g tt tk tv stay σw ds (putKD acc k z) M3 Φ else dcD g tt tk tv stay σw ds acc M1 Φ
@[simp] def tdDc (ti : TID) (g : Tgt) (tt : TTd) (tk tv : TD) (vs : List Nat) : TD := fun σ M Q => ti σ M fun ds stay M1 => ∀ p, M1 p = none → dcD g tt tk tv stay (wipeD σ vs) ds [] (mu M1 p .hid) fun acc M2 => Q (.ref p) (mu M2 p (.dic acc))
theorem ne0 {M : Mm} {p : Addr} {o : MO} (h : M p = some o) : M p ≠ none := fun z => by rw [h] at z; cases z
/-- what is hidden may be written: nothing that is told changes -/
theorem nqH {M : Mm} {p : Addr} (hp : M p = some .hid) : ¬ Qt (M p) := fun n => by rw [hp] at n; rcases n with n | ⟨_, n⟩ <;> cases n
theorem nqL {M : Mm} {p : Addr} {l : List (Key × D)} (hp : M p = some (.dicL l)) : ¬ Qt (M p) := fun n => by rw [hp] at n; rcases n with n | ⟨_, n⟩ <;> cases n
theorem Rep.wr {K : PySem.W.Frag} {M : Mm} {H : Hp} {p : Addr} {o : HO} (hp : ¬ Qt (M p)) : ∀ (d : D) (v : V), Rep K M H d v → Rep K M (upd H p o) d v := by
  intro d v h
  have nf : ∀ a, Qt (M a) → a ≠ p := fun a n z => hp (by rw [← z]; exact n)
  have eV : Ev (fun a => if a = p then some (.lst []) else M a) H (fun a => if a = p then some (.lst []) else M a) (upd H p o) := fun a u h1 h2 => by
    by_cases za : a = p
    · exact (show Still (some (MO.lst [])) from by have h3 : Still (if a = p then some (MO.lst []) else M a) := h2; rw [if_pos za] at h3; exact h3).elim
    · exact ⟨by rw [upd_ne za]; exact h1, rfl⟩
  have h2 : Rep K (fun a => if a = p then some (.lst []) else M a) H d v := Rep.less (fun a n => by show Qt (if a = p then _ else _); rw [if_neg (nf a n)]; exact n) d v h
  refine Rep.less (fun a n => ?_) d v (eV.rep d v h2)
  by_cases za : a = p
  · rw [if_pos za] at n; rcases n with n | ⟨_, n⟩ <;> cases n
  · rw [if_neg za] at n; exact n
theorem Reps.wr {K : PySem.W.Frag} {M : Mm} {H : Hp} {p : Addr} {o : HO} (hp : ¬ Qt (M p)) : ∀ {d : List D} {u : List V}, Reps K M H d u → Reps K M (upd H p o) d u
  | [], u, h => by obtain rfl := Reps.nil_inv h; exact .nil
  | d :: ds, u, h => by
    obtain ⟨v', vr, rfl, r1, r2⟩ := Reps.inv h
    exact .cons (Rep.wr hp _ _ r1) (Reps.wr hp r2)
theorem Fs.wr {K : PySem.W.Frag} {M : Mm} {H : Hp} {p : Addr} {o : HO} (hp : ¬ Qt (M p)) : ∀ {d : List (Str × D)} {u : List (Str × V)}, Fs K M H d u → Fs K M (upd H p o) d u
  | [], u, h => h
  | (f, d) :: ds, u, h => by
    unfold Fs at h ⊢
    obtain ⟨v', vr, rfl, r1, r2⟩ := h
    exact ⟨v', vr, rfl, Rep.wr hp _ _ r1, Fs.wr hp r2⟩
theorem Ks.wr {K : PySem.W.Frag} {M : Mm} {H : Hp} {p : Addr} {o : HO} (hp : ¬ Qt (M p)) : ∀ {d : List (Key × D)} {u : List (Key × V)}, Ks K M H d u → Ks K M (upd H p o) d u
  | [], u, h => h
  | (f, d) :: ds, u, h => by
    unfold Ks at h ⊢
    obtain ⟨v', vr, rfl, r1, r2⟩ := h
    exact ⟨v', vr, rfl, Rep.wr hp _ _ r1, Ks.wr hp r2⟩
theorem RepM.hid {K : PySem.W.Frag} {M : Mm} {H : Hp} {p : Addr} {o : HO} (rm : RepM K M H) (hp : M p = some .hid) : RepM K M (upd H p o) := fun z u hz => by
  by_cases zp : z = p
  · subst zp
    rw [hp] at hz
    cases hz
    exact ⟨_, upd_same⟩
  · have w := rm z u hz
    cases u with
    | lst ds => obtain ⟨us, h1, h2⟩ := w; exact ⟨us, by rw [upd_ne zp]; exact h1, h2.wr (nqH hp)⟩
    | dic ds => obtain ⟨us, h1, h2⟩ := w; exact ⟨us, by rw [upd_ne zp]; exact h1, h2.wr (nqH hp)⟩
    | ins C ds => obtain ⟨dx, us, h1, h2⟩ := w; exact ⟨dx, us, by rw [upd_ne zp]; exact h1, h2.wr (nqH hp)⟩
    | hid => obtain ⟨us, h1⟩ := w; exact ⟨us, by rw [upd_ne zp]; exact h1⟩
    | dicL ds => obtain ⟨od, us, h1, h2⟩ := w; exact ⟨od, us, by rw [upd_ne zp]; exact h1, h2.wr (nqH hp)⟩
    | tupX ds => obtain ⟨od, us, h1, h3, h2⟩ := w; exact ⟨od, us, by rw [upd_ne zp]; exact h1, h3, h2.wr (nqH hp)⟩
    | gen sh ds => obtain ⟨us, h1, h2⟩ := w; exact ⟨us, by rw [upd_ne zp]; exact h1, h2.wr (nqH hp)⟩
    | genL sh ds => obtain ⟨od, us, h1, h2⟩ := w; exact ⟨od, us, by rw [upd_ne zp]; exact h1, h2.wr (nqH hp)⟩
/-- .. and is told from then on -/
theorem RepM.told {K : PySem.W.Frag} {M : Mm} {H : Hp} {p : Addr} (rm : RepM K M H) (hp : M p = some .hid) {kvs : List (Key × D)} {vs : List (Key × V)} (hH : H p = some (.dK vs)) (r : Ks K M H kvs vs) : RepM K (mu M p (.dic kvs)) H := by
  have ln : ∀ a, Qt (M a) → Qt (mu M p (.dic kvs) a) := fun a n => by
    rw [mu_ne fun z => ?_]
    · exact n
    · rw [z, hp] at n; rcases n with n | ⟨_, n⟩ <;> cases n
  intro z o hz
  by_cases e : z = p
  · subst e
    rw [mu_same] at hz
    cases hz
    exact ⟨vs, hH, r.less ln⟩
  · rw [mu_ne e] at hz
    exact (rm z o hz).less ln
theorem wipe_twice {σ : L2.St} {vs : List Nat} : L2.wipe (L2.wipe σ vs) vs = L2.wipe σ vs := by
  have : ∀ (ws : List Nat) (τ : L2.St), (∀ i ∈ ws, i ∈ vs) → L2.wipe (L2.wipe τ ws) vs = L2.wipe τ vs := by
    intro ws
    induction ws with
    | nil => intro τ _; rfl
    | cons w ws ih =>
      intro τ hh
      show L2.wipe ((L2.wipe τ ws).set w none) vs = _
      rw [wipe_set, if_pos (hh w List.mem_cons_self)]
      exact ih τ fun i hi => hh i (List.mem_cons_of_mem _ hi)
  exact this vs σ fun _ h => h
/-- the reading of a dict comprehension, from the one over data -/
theorem dc_of {K : PySem.W.Frag} {ti : TID} {g : Tgt} {tt : TTd} {tk tv : TD} {vs : List Nat} (hv : ∀ i ∈ g.ix, i ∈ vs) {σ : L2.St} {H : Hp} {Q : VK} (h : lE K J (tdDc ti g tt tk tv vs) σ H Q) : tDc (lI K J ti) (gT K g) (lT K J tt) (lE K J tk) (lE K J tv) vs σ H Q := by
  obtain ⟨σd, M, Φ, rs, rm, h, k⟩ := h
  refine ⟨σd, M, _, rs, rm, h, fun ds stay M1 It H1 e1 rm1 it q1 p hp => ?_⟩
  have hM := rm1.free hp
  have eN : Ev M1 H1 (mu M1 p .hid) (upd H1 p (.dK [])) := .newM hp
  have rN : RepM K (mu M1 p .hid) (upd H1 p (.dK [])) := rm1.newM hp ⟨_, upd_same⟩
  let fin : List (Key × D) → Mm → Prop := fun acc M2 => Φ (.ref p) (mu M2 p (.dic acc))
  refine ⟨fun i m H2 => m = ds.length - i ∧ i ≤ ds.length ∧ ∃ acc va M2, Ev M1 H1 M2 H2 ∧ RepM K M2 H2 ∧ M2 p = some .hid ∧ H2 p = some (.dK va) ∧ Ks K M2 H2 acc va ∧ dcD g tt tk tv stay (wipeD σd vs) (ds.drop i) acc M2 fin,
    ⟨_, rfl, Nat.zero_le _, [], [], mu M1 p .hid, eN, rN, mu_same, upd_same, rfl, by simpa using q1 p hM⟩, ?_⟩
  rintro i m H2 ⟨rfl, hi, acc, va, M2, e2, rm2, hp2, hH2, ra, q2⟩
  have rsW : ∀ {M3 H3}, Ev M1 H1 M3 H3 → RepS K J M3 H3 (wipeD σd vs) (L2.wipe σ vs) := fun e3 => wipeD_ok ((e1.trans e3).slots rs) vs
  by_cases hl : i < ds.length
  · rw [List.drop_eq_getElem_cons hl] at q2
    obtain ⟨st, σ', es, q2⟩ := q2
    obtain ⟨_, it2⟩ := it i M2 H2 e2 rm2 st
    obtain ⟨go, yl⟩ := it2 _ (List.getElem?_eq_getElem hl)
    refine .inr ⟨go, fun H3 => ∃ acc va M2, Ev M1 H1 M2 H3 ∧ RepM K M2 H3 ∧ M2 p = some .hid ∧ H3 p = some (.dK va) ∧ Ks K M2 H3 acc va ∧ dcD g tt tk tv stay (wipeD σd vs) (ds.drop (i + 1)) acc M2 fin, fun H3 q => ⟨ds.length - (i + 1), by omega, rfl, hl, q⟩, fun x H3 y => ?_⟩
    obtain ⟨e3, rm3, r3⟩ := yl x H3 y
    refine gT_ok (rsW (e2.trans e3)) r3 es fun σ4 rs4 hw => ⟨by rw [hw vs hv, wipe_twice], ?_⟩
    obtain ⟨hH3, hp3⟩ := e3 p _ hH2 (by rw [hp2]; trivial)
    refine ⟨σ', M2, _, rs4, rm3, q2, fun b M4 H4 e4 rm4 q4 => ?_⟩
    obtain ⟨hH4, hp4⟩ := e4 p _ hH3 (by rw [hp2]; trivial)
    rw [hp2] at hp4
    cases b with
    | true =>
      rw [if_pos rfl] at q4
      refine iteT ?_
      refine ⟨σ', M4, _, e4.slots rs4, rm4, q4, fun y' M5 v H5 e5 rm5 r5 q5 => ?_⟩
      obtain ⟨hH5, hp5⟩ := e5 p _ hH4 (by rw [hp4]; trivial)
      rw [hp4] at hp5
      refine ⟨σ', M5, _, e5.slots (e4.slots rs4), rm5, q5, fun z' M6 w H6 e6 rm6 r6 q6 => ?_⟩
      obtain ⟨hH6, hp6⟩ := e6 p _ hH5 (by rw [hp5]; trivial)
      rw [hp5] at hp6
      obtain ⟨key, hk, hlen, q6⟩ := q6
      have ra6 := (e3.trans (e4.trans (e5.trans e6))).ks ra
      have hkv := keyD_kV hk r5
      refine ⟨va, key, hkv, hH6, by rw [← ra.length]; exact hlen, putKD acc key z', putK va key w, M6, ?_, rm6.hid hp6, hp6, upd_same, (ra6.put r6).wr (nqH hp6), q6⟩
      intro a u h1 h2
      obtain ⟨h3, h4⟩ := (e2.trans (e3.trans (e4.trans (e5.trans e6)))) a u h1 h2
      have za : a ≠ p := fun z => by rw [z, hp] at h1; cases h1
      exact ⟨by rw [upd_ne za]; exact h3, h4⟩
    | false =>
      rw [if_neg Bool.false_ne_true] at q4
      refine iteF ?_
      exact ⟨acc, va, M4, e2.trans (e3.trans e4), rm4, hp4, hH4, (e3.trans e4).ks ra, q4⟩
  · rw [List.drop_eq_nil_of_le (by omega)] at q2
    obtain ⟨st, q2⟩ := q2
    obtain ⟨stop, _⟩ := it i M2 H2 e2 rm2 st
    refine .inl ⟨stop (by omega), k (.ref p) (mu M2 p (.dic acc)) (.ref p) H2 (e1.trans ?_) (rm2.told hp2 hH2 ra) (rep_ref.mpr rfl) q2⟩
    intro a u h1 h2
    obtain ⟨h3, h4⟩ := e2 a u h1 h2
    have za : a ≠ p := fun z => by rw [z, hp] at h1; cases h1
    exact ⟨h3, by rw [mu_ne za]; exact h4⟩
theorem de_dc {kx vx tg iter : Expr} {ifs : List Expr} {scope : Scope} {own : List (Str × Nat)} {ti : TID} {g : Tgt} {tt : TTd} {tk tv : TD} (hc : X.calm = true) (hN : X.N.Nodup) (hi : DI J X tg iter ti) (ok : BlkOk X.N X.env.scope scope own)
    (hg : ∀ (s : Shared) (H : Hp) (C : Addr) (cl : List (Str × Addr)) (fp : List Addr), DTg (X.blk s H scope (PySem.compEnvC scope cl C X.env) fp) tg g) (ht : ∀ (s : Shared) (H : Hp) (C : Addr) (cl : List (Str × Addr)) (fp : List Addr), DTs J (X.blk s H scope (PySem.compEnvC scope cl C X.env) fp) ifs tt)
    (hk : ∀ (s : Shared) (H : Hp) (C : Addr) (cl : List (Str × Addr)) (fp : List Addr), DE J (X.blk s H scope (PySem.compEnvC scope cl C X.env) fp) kx tk)
    (he : ∀ (s : Shared) (H : Hp) (C : Addr) (cl : List (Str × Addr)) (fp : List Addr), DE J (X.blk s H scope (PySem.compEnvC scope cl C X.env) fp) vx tv) (hv : ∀ i ∈ g.ix, i ∈ own.map (·.2) := by decide) (hs : ∀ x, foldedSetIterable iter X.env x = pure x := by intro _; rfl) :
    DE J X (.DictComp kx vx [⟨tg, iter, ifs, 0⟩] scope pos) (tdDc ti g tt tk tv (own.map (·.2))) := PE.imp (pe_dc hc hN hi ok hg ht hk he hs) fun _ _ _ h => dc_of hv h
/-! ### walks over dicts -/
def kD : Key → D
  | .inl i => .int i
  | .inr s => .str s.cps.toList
theorem Ks.keys {K : PySem.W.Frag} {M : Mm} {H : Hp} {i : Nat} : ∀ {fs : List (Key × D)} {vs : List (Key × V)}, Ks K M H fs vs → (vs.map (·.1)) = fs.map (·.1)
  | [], vs, h => by unfold Ks at h; subst h; rfl
  | (k, x) :: r, vs, h => by
    unfold Ks at h
    obtain ⟨v, vr, rfl, r1, r2⟩ := h
    rw [List.map_cons, List.map_cons, Ks.keys (i := i) r2]
def keyOk : Key → Prop
  | .inl _ => True
  | .inr s => s.length ≤ sizeLine
theorem kD_rep {K : PySem.W.Frag} {M : Mm} {H : Hp} {k : Key} (h : keyOk k) : Rep K M H (kD k) (kV k) := by
  cases k with
  | inl i => exact rep_int.mpr rfl
  | inr s => exact rep_str.mpr ⟨by cases s; rfl, by simpa [keyOk, Str.length] using h⟩
/-- for k in d, d locked -/
@[simp] def tdKeys (te : TD) : TID := fun σ M Φ => te σ M fun x M1 => ∃ p kvs, x = .ref p ∧ M1 p = some (.dicL kvs) ∧ (∀ e ∈ kvs, keyOk e.1) ∧ Φ (kvs.map fun e => kD e.1) Sta M1
theorem di_keys {tg e : Expr} {te : TD} (he : DE J X e te) : DI J X tg e (tdKeys te) := by
  refine ⟨fun pins s σ H R I h => (pi_keys he).run pins s σ H R I ?_⟩
  obtain ⟨σd, M, Φ, rs, rm, h, k⟩ := h
  refine ⟨σd, M, _, rs, rm, h, fun x M1 v H1 e1 rm1 r1 q1 => ?_⟩
  obtain ⟨p, kvs, rfl, hp, hk, q1⟩ := q1
  obtain rfl := rep_ref.mp r1
  obtain ⟨od, vs, h1, h2⟩ := rm1 p _ hp
  refine ⟨p, od, rfl, .inl ⟨vs, h1, k _ Sta M1 (Itk p od vs) H1 e1 rm1 ?_ q1⟩⟩
  intro i M2 H2 e2 rm2 _
  obtain ⟨h3, _⟩ := e2 p _ h1 (by rw [hp]; trivial)
  have hl := h2.length
  refine ⟨fun hi => ⟨h3, by rw [← hl]; simpa using hi⟩, fun d hd => ?_⟩
  rw [List.getElem?_map] at hd
  cases e : kvs[i]? with
  | none => rw [e] at hd; cases hd
  | some kv =>
    rw [e] at hd
    cases hd
    have hi : i < kvs.length := (List.getElem?_eq_some_iff.mp e).1
    refine ⟨⟨h3, by rw [← hl]; exact hi⟩, fun x H' ⟨e3, key, w, e4, e5⟩ => ?_⟩
    subst e3 e5
    have ek := congrArg (·[i]?) (h2.keys (i := i))
    simp only [List.getElem?_map, e, e4, Option.map_some, Option.some.injEq] at ek
    rw [ek]
    exact ⟨.refl, rm2, kD_rep (hk kv (List.mem_of_getElem? e))⟩
/-- while the dict at p is walked -/
@[simp] def tdLock (t : TD) : TD := fun σ M Q => ∃ p kvs, M p = some (.dic kvs) ∧ t σ (mu M p (.dicL kvs)) fun d M' => Q d (mu M' p (.dic kvs))
/-- behind the walk -/
theorem unlock {K : PySem.W.Frag} {M M' : Mm} {H H' : Hp} {p : Addr} {od : Obj} {kvs : List (Key × D)} {vs : List (Key × V)} (hp : M p = some (.dic kvs)) (hH : H p = some (.dK vs)) (r : Ks K M H kvs vs)
    (e : Ev (mu M p (.dicL kvs)) (upd H p (.frz od (.dK vs))) M' H') (rm : RepM K M' H') :
    H' p = some (.frz od (.dK vs)) ∧ Ev M H (mu M' p (.dic kvs)) (upd H' p (.dK vs)) ∧ RepM K (mu M' p (.dic kvs)) (upd H' p (.dK vs)) ∧ ∀ d v, Rep K M' H' d v → Rep K (mu M' p (.dic kvs)) (upd H' p (.dK vs)) d v := by
  have ns := notStillK hp
  have e0 : Ev M H (mu M p (.dicL kvs)) (upd H p (.frz od (.dK vs))) := .setM ns
  obtain ⟨h1, h2⟩ := e p _ upd_same (by rw [mu_same]; trivial)
  rw [mu_same] at h2
  have ln : ∀ a, Qt (M' a) → Qt (mu M' p (.dic kvs) a) := fun a n => by
    rw [mu_ne fun z => ?_]
    · exact n
    · rw [z, h2] at n; rcases n with n | ⟨_, n⟩ <;> cases n
  have ks : Ks K (mu M' p (.dic kvs)) (upd H' p (.dK vs)) kvs vs := (((e0.trans e).ks r).wr (nqL h2)).less ln
  refine ⟨h1, fun a u ha n => ?_, fun z o hz => ?_, fun d v h => Rep.less ln _ _ (Rep.wr (nqL h2) _ _ h)⟩
  · have za : a ≠ p := fun z => by rw [z, hp] at n; exact n
    obtain ⟨h3, h4⟩ := (e0.trans e) a u ha n
    exact ⟨by rw [upd_ne za]; exact h3, by rw [mu_ne za]; exact h4⟩
  · by_cases zp : z = p
    · subst zp
      rw [mu_same] at hz
      cases hz
      exact ⟨vs, upd_same, ks⟩
    · rw [mu_ne zp] at hz
      have w := rm z o hz
      refine RepO.less ln ?_
      cases o with
      | lst ds => obtain ⟨us, h1, h3⟩ := w; exact ⟨us, by rw [upd_ne zp]; exact h1, h3.wr (nqL h2)⟩
      | dic ds => obtain ⟨us, h1, h3⟩ := w; exact ⟨us, by rw [upd_ne zp]; exact h1, h3.wr (nqL h2)⟩
      | ins C ds => obtain ⟨dx, us, h1, h3⟩ := w; exact ⟨dx, us, by rw [upd_ne zp]; exact h1, h3.wr (nqL h2)⟩
      | hid => obtain ⟨us, h1⟩ := w; exact ⟨us, by rw [upd_ne zp]; exact h1⟩
      | dicL ds => obtain ⟨od2, us, h1, h3⟩ := w; exact ⟨od2, us, by rw [upd_ne zp]; exact h1, h3.wr (nqL h2)⟩
      | tupX ds => obtain ⟨od2, us, h1, h4, h3⟩ := w; exact ⟨od2, us, by rw [upd_ne zp]; exact h1, h4, h3.wr (nqL h2)⟩
      | gen sh ds => obtain ⟨us, h1, h3⟩ := w; exact ⟨us, by rw [upd_ne zp]; exact h1, h3.wr (nqL h2)⟩
      | genL sh ds => obtain ⟨od2, us, h1, h3⟩ := w; exact ⟨od2, us, by rw [upd_ne zp]; exact h1, h3.wr (nqL h2)⟩
theorem de_lock {e : Expr} {t : TD} (he : DE J X e t) : DE J X e (tdLock t) := by
  refine PE.imp (pe_lock he) fun σ H Q ⟨σd, M, Φ, rs, rm, ⟨p, kvs, hp, h⟩, k⟩ => ?_
  obtain ⟨vs, h1, h2⟩ := rm p _ hp
  refine ⟨p, .dK vs, h1, trivial, fun od => ?_⟩
  have ns := notStillK hp
  have e0 : Ev M H (mu M p (.dicL kvs)) (upd H p (.frz od (.dK vs))) := .setM ns
  refine ⟨σd, mu M p (.dicL kvs), _, e0.slots rs, rm.setM ns ⟨od, vs, upd_same, e0.ks h2⟩, h, fun d M' v H' e1 rm1 r1 q1 => ?_⟩
  obtain ⟨u1, u2, u3, u4⟩ := unlock hp h1 h2 e1 rm1
  exact ⟨u1, k d _ v _ u2 u3 (u4 _ _ r1) q1⟩
end
/-! ### defs whose new objects stay told -/
@[simp] def endN (Φ : QD) : Ed := ⟨fun _ M' => Φ .non M', Φ, fun _ _ => False, fun _ _ => False⟩
theorem body_ofN {X : Cx} {M : Mm} {H : Hp} {N : List Str} {ds : List D} {vs : List V} {Φ : QD} {Q : VK} {t : TSd} (rm : RepM X.K M H) (r : Reps X.K M H ds vs) (k : ∀ d M' v H', Ev M H M' H' → RepM X.K M' H' → Rep X.K M' H' d v → Φ d M' → Q v H')
    (h : t (endN Φ) (startD N ds) M) : lS X.K (Jc.of M H) t { nx := fun _ H' => Q .non H', rt := Q } (L2.start N vs) H := by
  refine ⟨startD N ds, M, endN Φ, ?_, rm, h, fun σd' M' σ' H' e1 _ rm1 q => k .non _ .non H' e1 rm1 (rep_non.mpr rfl) q, fun d M' v H' e1 rm1 r1 q => k d _ v H' e1 rm1 r1 q, fun _ _ _ _ _ _ _ q => q, fun _ _ _ _ _ _ _ q => q⟩
  have hl := r.length
  unfold startD L2.start
  exact RepS.start (n := N.length) r (show Ev M H M H from .refl)
section
variable {P : Program} {w : World} {K : PySem.W.Frag} {mg : Str → Option Value} {base : Heap}
theorem fnDN {x qual : Str} {st : Stmt} {f : Addr} {fd : FuncData} {N ps : List Str} {k : Nat} {sp : SpD} (t : TSd) (F : Fun K x qual st f fd) (S : FnScope N ps (defScope st)) (len : ∀ ds M Q E, sp ds M Q E → ds.length = ps.length)
    (hd : ∀ (J : Jc) (cdv : Value) (A : Around) (outer : List Env) (s : Shared) (H : Hp) (E : XK), Room k (A.deeper (PyProof.Rows.envOfC qual (defScope st) s.heap.objs.size f cdv)) → DSs J (cxOf CX0 P w K mg base N qual (defScope st) f cdv A outer s H E).nox (defBody st) t)
    (hq : ∀ ds M Φ Ψ, sp ds M Φ Ψ → t (endN Φ) (startD N ds) M) : FnOk P w K mg base CX0 (k + 1) f fd ps (lSp K mg sp) := by
  refine F.ok S (fun vs H Q E ⟨M, ds, Φ, Ψ, rm, r, h, _⟩ => ?_) (fun cdv A outer s H vs Q E hr ⟨M, ds, Φ, Ψ, rm, r, h, kq, _⟩ => ?_)
  · rw [← r.length]
    exact len _ _ _ _ h
  · exact ⟨_, hd (Jc.of M H) cdv A outer s H E hr, body_ofN rm r kq (hq ds M Φ Ψ h)⟩
end
end DL

set_option Elab.async false
set_option linter.all false
set_option maxRecDepth 100000
/-! DL17: stores to places of dicts in one assignment; dict displays with text keys; dict(pairs); comparing what lists hold now. -/
namespace DL
open PySem L2 PyProof.Rows
/-! ### targets -/
@[simp] def gdName (i : Nat) : TGd := fun d σ M Q => Q (σ.set i (some d)) M
theorem PGs.imp {X : Cx} {tg : List Expr} {t u : TGs} (h : PGs X tg t) (e : ∀ v σ H Q, u v σ H Q → t v σ H Q) : PGs X tg u := ⟨fun pins s σ H v w Q I r q => h.run pins s σ H v w Q I r (e _ _ _ _ q)⟩
section
variable {X : Cx} {J : Jc} {pos : Pos}
theorem dg_name {i : Nat} {x : Str} (hN : X.N.Nodup) (hi : X.N[i]? = some x) (hx : Loc X.env.scope x) (hf : X.fn x = true ∨ X.env.scope.names.lookup x = some .local := by first | exact .inl rfl | exact .inr rfl | assumption) : DG J X (.Name x pos) (gdName i) := by
  refine PG.imp (pg_name hN hi hx hf) fun v σ H Q ⟨d, σd, M, Φ, rs, rm, rd, h, k⟩ => ?_
  exact k _ M _ H .refl (rs.set rd i) rm h
@[simp] def gdSub (to ti : TD) : TGd := fun d σ M Q => to σ M fun x M1 => ti σ M1 fun y M2 => ∃ p kvs k, x = .ref p ∧ M2 p = some (.dic kvs) ∧ keyD y = some k ∧ kvs.length < sizeLine ∧ Q σ (mu M2 p (.dic (putKD kvs k d)))
theorem dg_sub {o i : Expr} {to ti : TD} (hu : X.A.units + 1 < cLine) (ho : DE J X o to) (hi : DE J X i ti)
    (ha : ∀ v, assign (.Subscript o i pos) X.env v = (do
      let ov ← holding [v] (eval o X.env)
      let iv ← holding [v, ov] (eval i X.env)
      standAt pos
      holding [v, ov, iv] (setItem ov iv v)
      release [v, ov, iv] []) := by intro _; rfl) : DG J X (.Subscript o i pos) (gdSub to ti) := by
  refine PG.imp (pg_sub ho hi (set_dict hu) ha) fun w σ H Q ⟨d, σd, M, Φ, rs, rm, r1, h, kk⟩ => ?_
  refine ⟨σd, M, _, rs, rm, h, fun x M2 v H2 e2 rm2 r2 q2 => ?_⟩
  refine ⟨σd, M2, _, e2.slots rs, rm2, q2, fun y M3 u H3 e3 rm3 r3 q3 => ?_⟩
  obtain ⟨p, kvs, key, rfl, hp, hk, hl, q3⟩ := q3
  obtain rfl := rep_ref.mp r2
  obtain ⟨vs, h1, h2⟩ := rm3 p _ hp
  obtain rfl := keyD_kV hk r3
  have ns := notStillK hp
  have eS : Ev M3 H3 (mu M3 p (.dic (putKD kvs key d))) (upd H3 p (.dK (putK vs key w))) := .setM ns
  refine ⟨p, _, rfl, DPut.k h1 (by rw [← h2.length]; exact hl), ?_⟩
  have e4 := e2.trans (e3.trans eS)
  exact kk σd _ σ _ e4 (e4.slots rs) (rm3.setM ns ⟨_, upd_same, eS.ks (h2.put ((e2.trans e3).rep _ _ r1))⟩) q3
/-- several, one after another -/
def gdMany : List TGd → List D → Sg → Mm → (Sg → Mm → Prop) → Prop
  | [], ds, σ, M, Q => ds = [] ∧ Q σ M
  | g :: gs, ds, σ, M, Q => ∃ d r, ds = d :: r ∧ g d σ M fun σ' M' => gdMany gs r σ' M' Q
@[simp] theorem gdMany_nil {ds : List D} {σ : Sg} {M : Mm} {Q : Sg → Mm → Prop} : gdMany [] ds σ M Q ↔ ds = [] ∧ Q σ M := Iff.rfl
@[simp] theorem gdMany_cons {g : TGd} {gs : List TGd} {d : D} {ds : List D} {σ : Sg} {M : Mm} {Q : Sg → Mm → Prop} : gdMany (g :: gs) (d :: ds) σ M Q ↔ g d σ M fun σ' M' => gdMany gs ds σ' M' Q := by
  refine ⟨fun ⟨a, b, e, h⟩ => ?_, fun h => ⟨d, ds, rfl, h⟩⟩
  cases e
  exact h
def lGs (K : PySem.W.Frag) (J : Jc) (gs : List TGd) : TGs := fun vs σ H Q => ∃ (σd : Sg) (M : Mm) (ds : List D) (Φ : Sg → Mm → Prop), RepS K J M H σd σ ∧ RepM K M H ∧ Reps K M H ds vs ∧ gdMany gs ds σd M Φ ∧
  ∀ σd' M' σ' H', Ev M H M' H' → RepS K J M' H' σd' σ' → RepM K M' H' → Φ σd' M' → Q σ' H'
abbrev DGs (X : Cx) (J : Jc) (tg : List Expr) (gs : List TGd) : Prop := PGs X tg (lGs X.K J gs)
theorem dgs_nil : DGs X J [] [] := by
  refine PGs.imp pgs_nil fun vs σ H Q ⟨σd, M, ds, Φ, rs, rm, rd, ⟨e, h⟩, k⟩ => ?_
  subst e
  obtain rfl := Reps.nil_inv rd
  exact ⟨rfl, k _ M _ H .refl rs rm h⟩
theorem dgs_cons {e : Expr} {es : List Expr} {g : TGd} {gs : List TGd} (h1 : DG J X e g) (h2 : DGs X J es gs)
    (hs : (assignEach (e :: es) X.env).map (·.2) = assign e X.env :: (assignEach es X.env).map (·.2) := by rfl) : DGs X J (e :: es) (g :: gs) := by
  refine PGs.imp (pgs_cons h1 h2 hs) fun vs σ H Q ⟨σd, M, ds, Φ, rs, rm, rd, h, k⟩ => ?_
  obtain ⟨d, r, rfl, h⟩ := h
  obtain ⟨v, vr, rfl, r1, r2⟩ := Reps.inv rd
  refine ⟨v, vr, rfl, d, σd, M, _, rs, rm, r1, h, fun σd' M' σ' H' e1 rs1 rm1 q1 => ?_⟩
  exact ⟨σd', M', r, Φ, rs1, rm1, e1.reps _ _ r2, q1, fun σd2 M2 σ2 H2 e2 rs2 rm2 q2 => k σd2 M2 σ2 H2 (e1.trans e2) rs2 rm2 q2⟩
@[simp] def gdTup (gs : List TGd) : TGd := fun d σ M Q => ∃ ds, d = .tup ds ∧ ds.length = gs.length ∧ gdMany gs ds σ M Q
theorem dg_tup {es : List Expr} {k : Nat} {gs : List TGd} (hc : X.calm = true) (h : DGs X J es gs) (hn : (assignEach es X.env).length = gs.length := by rfl) (hst : (assignEach es X.env).findIdx? (·.1) = none := by rfl) : DG J X (.Tuple es k pos) (gdTup gs) := by
  refine PG.imp (pg_tup hc h hn hst) fun v σ H Q ⟨d, σd, M, Φ, rs, rm, rd, h, k⟩ => ?_
  obtain ⟨ds, rfl, hl, h⟩ := h
  obtain ⟨a, vs, rfl, tp, r⟩ := rep_tup.mp rd
  exact ⟨a, vs, rfl, tp.sq, by rw [← r.length]; exact hl, σd, M, ds, Φ, rs, rm, r, h, k⟩
@[simp] def tdAsgG (te : TD) (g : TGd) : TSd := fun Δ σ M => te σ M fun d M1 => g d σ M1 Δ.nx
theorem ds_asgG {tg e : Expr} {te : TD} {g : TGd} (he : DE J X e te) (hg : DG J X tg g) (hs : swapsWithSole [tg] e pos.line X.env = pure false := by rfl) (hw : swappedStores [tg] e X.env = pure none := by rfl)
    (h1 : (assignEach [tg] X.env).map (·.2) = [assign tg X.env] := by rfl) : DS J X (.Assign [tg] e pos) (tdAsgG te g) := by
  refine PS.imp (ps_asg he hg hs hw h1) fun D σ H ⟨σd, M, Δ, rs, rm, h, kn, _⟩ => ?_
  refine ⟨σd, M, _, rs, rm, h, fun d M1 v H1 e1 rm1 r1 q1 => ?_⟩
  exact ⟨d, σd, M1, _, e1.slots rs, rm1, r1, q1, fun σd' M' σ' H' e2 rs2 rm2 q2 => kn σd' M' σ' H' (e1.trans e2) rs2 rm2 q2⟩
end
/-! ### dict displays with text keys -/
def mergeKD (kvs more : List (Key × D)) : List (Key × D) := more.foldl (fun acc kv => putKD acc kv.1 kv.2) kvs
theorem Ks.merge {K : PySem.W.Frag} {M : Mm} {H : Hp} : ∀ {more : List (Key × D)} {mv : List (Key × V)} {fs : List (Key × D)} {vs : List (Key × V)}, Ks K M H more mv → Ks K M H fs vs → Ks K M H (mergeKD fs more) (mergeK vs mv)
  | [], mv, fs, vs, h, r => by unfold Ks at h; subst h; exact r
  | (k, x) :: m, mv, fs, vs, h, r => by
    unfold Ks at h
    obtain ⟨v, vr, rfl, r1, r2⟩ := h
    exact Ks.merge (more := m) (mv := vr) r2 (r.put r1)
/-- the values of a display, from the left -/
def tdPairs : List (String × TD) → Sg → Mm → (List (Key × D) → Mm → Prop) → Prop
  | [], _, M, Q => Q [] M
  | (s, t) :: r, σ, M, Q => t σ M fun y M1 => tdPairs r σ M1 fun ps M2 => Q ((.inr (Str.ofString s), y) :: ps) M2
@[simp] theorem tdPairs_nil {σ : Sg} {M : Mm} {Q : List (Key × D) → Mm → Prop} : tdPairs [] σ M Q ↔ Q [] M := Iff.rfl
@[simp] theorem tdPairs_cons {s : String} {t : TD} {r : List (String × TD)} {σ : Sg} {M : Mm} {Q : List (Key × D) → Mm → Prop} : tdPairs ((s, t) :: r) σ M Q ↔ t σ M fun y M1 => tdPairs r σ M1 fun ps M2 => Q ((.inr (Str.ofString s), y) :: ps) M2 := Iff.rfl
def trsD (K : PySem.W.Frag) (J : Jc) (kts : List (String × TD)) : List (TE × TE) := kts.map fun p => (tC (.str (Str.ofString p.1)), lE K J p.2)
abbrev DPs (J : Jc) (X : Cx) (pos : Pos) (keys : List (Option Expr)) (values : List Expr) (kts : List (String × TD)) : Prop := PPs X pos keys values (trsD X.K J kts)
section
variable {X : Cx} {J : Jc} {pos : Pos}
theorem dps_nil : DPs J X pos [] [] [] := pps_nil
theorem dps_cons {s : String} {j : Nat} {pk : Pos} {v : Expr} {ks : List (Option Expr)} {vs : List Expr} {tv : TD} {kts : List (String × TD)} (hv : DE J X v tv) (hr : DPs J X pos ks vs kts) :
    DPs J X pos (some (.Constant (.str (Str.ofString s)) j pk) :: ks) (v :: vs) ((s, tv) :: kts) := pps_cons pe_str hv hr
theorem pairs_ok {K : PySem.W.Frag} : ∀ {kts : List (String × TD)} {σd : Sg} {σ : L2.St} {M : Mm} {H : Hp} {Φ : List (Key × D) → Mm → Prop} {Q : List (V × V) → Hp → Prop}, RepS K J M H σd σ → RepM K M H → tdPairs kts σd M Φ →
    (∀ kvs vs M' H', Ev M H M' H' → RepM K M' H' → Ks K M' H' kvs vs → kvs.length = kts.length → Φ kvs M' → Q (vs.map fun kv => (kV kv.1, kv.2)) H') → tPairs (trsD K J kts) σ H Q
  | [], σd, σ, M, H, Φ, Q, rs, rm, h, k => k [] [] M H .refl rm rfl rfl h
  | (s, t) :: r, σd, σ, M, H, Φ, Q, rs, rm, h, k => by
    show lE K J t σ H fun y H2 => tPairs (trsD K J r) σ H2 fun ps H3 => Q ((V.str (Str.ofString s), y) :: ps) H3
    refine ⟨σd, M, _, rs, rm, h, fun d M1 v H1 e1 rm1 r1 q1 => ?_⟩
    refine pairs_ok (e1.slots rs) rm1 q1 fun kvs vs M2 H2 e2 rm2 r2 hl q2 => ?_
    exact k ((.inr (Str.ofString s), d) :: kvs) ((.inr (Str.ofString s), v) :: vs) M2 H2 (e1.trans e2) rm2 ⟨v, vs, rfl, e2.rep _ _ r1, r2⟩ (by rw [List.length_cons, List.length_cons, hl]) q2
@[simp] def tdDisp (kts : List (String × TD)) : TD := fun σ M Q => ∀ p, M p = none → tdPairs kts σ (mu M p .hid) fun kvs M2 => Q (.ref p) (mu M2 p (.dic (mergeKD [] kvs)))
theorem de_disp {keys : List (Option Expr)} {values : List Expr} {kts : List (String × TD)} (h : DPs J X pos keys values kts) (hall : keys.all (·.isSome) = true := by rfl) (hl : keys.length = values.length := by rfl) (h0 : keys ≠ [] := by decide) (h15 : keys.length ≤ 15 := by decide)
    (h16 : kts.length ≤ 15 := by decide) : DE J X (.Dict keys values pos) (tdDisp kts) := by
  refine PE.imp (pe_disp h hall hl h0 h15) fun σ H Q ⟨σd, M, Φ, rs, rm, h, k⟩ => ?_
  intro p hp
  have hM := rm.free hp
  have eN : Ev M H (mu M p .hid) (upd H p (.dK [])) := .newM hp
  have rN : RepM X.K (mu M p .hid) (upd H p (.dK [])) := rm.newM hp ⟨_, upd_same⟩
  refine pairs_ok (eN.slots rs) rN (h p hM) fun kvs vs M2 H2 e2 rm2 r2 hl2 q2 => ?_
  obtain ⟨hH2, hp2⟩ := e2 p _ upd_same (by rw [mu_same]; trivial)
  rw [mu_same] at hp2
  refine ⟨hH2, vs, rfl, by rw [← r2.length, hl2]; exact h16, ?_⟩
  have rm3 := (rm2.hid (o := .dK (mergeK [] vs)) hp2).told hp2 upd_same ((r2.merge (fs := []) (vs := []) rfl).wr (nqH hp2))
  refine k (.ref p) (mu M2 p (.dic (mergeKD [] kvs))) (.ref p) _ ?_ rm3 (rep_ref.mpr rfl) q2
  intro a u h1 h2
  have e2' := (eN.trans e2) a u h1 h2
  have za : a ≠ p := fun z => by rw [z, hp] at h1; cases h1
  exact ⟨by rw [upd_ne za]; exact e2'.1, by rw [mu_ne za]; exact e2'.2⟩
end
end DL
/-! ### tuples whose object is known -/
namespace L2
open PySem PySem.Spec PyProof.Rows
section
variable {X : Cx}
theorem call_tuple_X : CallR X (.type "tuple") (fun xs H Q => ∃ p ys, xs = [.ref p] ∧ SqL X.K H p ys ∧ ∀ l (od : Obj), H l = none → od.dict = none → Q (.ref l) (upd H l (.frz od (.tup ys)))) := by
  intro pins s σ H xs us Q I r h
  obtain ⟨p, ys, rfl, hq, q⟩ := h
  obtain ⟨u, rfl, rx⟩ := vals1 r
  cases rx
  obtain ⟨its, r', pl, hz⟩ := I.list hq
  have hlen := r'.length
  refine call_tuple_list pl.isList (fun h' kp => ?_) (by simp only [List.size_toArray] <;> omega)
  have I1 : Inv X pins σ H { s with heap := h' } := I.kept (t' := s.toks) kp
  have I2 : Inv X pins σ (upd H h'.objs.size (.frz { cls := .type "tuple", data := .seq its.toArray } (.tup ys))) { s with heap := h'.push { cls := .type "tuple", data := .seq its.toArray } } :=
    I1.laid (t' := s.toks) (fun b o e => Heap.get?_push_of_some _ e) (Nat.le_refl _) (show ObjOk X.prog X.w _ _ _ (.frz _ (.tup ys)) from ⟨Heap.get?_push_size _ rfl, hz, its, r', IsTup.new _ _⟩)
  exact ⟨.ref h'.objs.size, _, I2, rfl, q _ _ (I1.hok.fresh (Nat.le_refl _)) rfl⟩
theorem pairs_of2 {pins : List (Addr × Obj)} {σ : St} {H : Hp} {s : Shared} (I : Inv X pins σ H s) : ∀ {ps : List Addr} {kvs : List (Key × V)}, Paired (fun p kv => SqT X.K H p [kV kv.1, kv.2]) ps kvs →
    ∃ (prs : List (Key × Value)) (vps : List (Value × Value)), KV kvs prs ∧ prs.length = ps.length ∧ vps.length = ps.length ∧ ∀ (j : Nat) (q : Value × Value), vps[j]? = some q → ∃ (b : Addr) (k : Key), ps[j]? = some b ∧ IsTup s.heap b #[q.1, q.2] ∧ prs[j]? = some (k, q.2) ∧ keyIs k q.1 = true
  | _, _, .nil => ⟨[], [], .nil, rfl, rfl, fun j q e => by simp at e⟩
  | _, _, .cons (a := p) (b := kv) h t => by
    obtain ⟨prs, vps, r, hl, hl2, hp⟩ := pairs_of2 I t
    obtain ⟨its, rv, ht, _⟩ := I.tuple h
    obtain ⟨u, y, ei, ru, ry⟩ := vals2 rv
    subst ei
    refine ⟨(kv.1, y) :: prs, (u, y) :: vps, .cons ⟨rfl, ry⟩ r, by rw [List.length_cons, List.length_cons, hl], by rw [List.length_cons, List.length_cons, hl2], fun j q e => ?_⟩
    cases j with
    | zero =>
      have e' : (u, y) = q := Option.some.inj e
      subst e'
      exact ⟨p, kv.1, rfl, ht, rfl, kV_is (P := X.prog) (w := X.w) ru⟩
    | succ j =>
      obtain ⟨b, k, e1, e2, e3, e4⟩ := hp j q (by simpa using e)
      exact ⟨b, k, by simpa using e1, e2, by simpa using e3, e4⟩
/-- dict(xs) of a tuple of pairs -/
theorem call_dictPT (hcalm : X.calm = true) : CallR X (.type "dict") (fun xs H Q => ∃ (a : Addr) (od : Obj) (ps : List Addr) (kvs : List (Key × V)), xs = [.ref a] ∧ H a = some (.frz od (.tup (ps.map V.ref))) ∧ od.dict = none ∧ Paired (fun p kv => SqT X.K H p [kV kv.1, kv.2]) ps kvs ∧
    ∀ p, H p = none → Q (.ref p) (upd H p (.dK (mergeK [] kvs)))) := by
  intro pins s σ H xs us Q I r q
  obtain ⟨a, od, ps, kvs, ex, hq, hod, hp, q⟩ := q
  subst ex
  obtain ⟨u, eu, rx⟩ := vals1 r
  subst eu
  cases rx
  obtain ⟨hg, hz, its, rv, ht⟩ := (show s.heap.get? a = some od ∧ _ from I.hok a _ hq)
  have ei := refs_at rv
  subst ei
  rw [List.length_map] at hz
  obtain ⟨prs, vps, rel, hl, hl2, hpr⟩ := pairs_of2 I hp
  obtain ⟨o, ho, hc, n, hdat⟩ := ht
  rw [hg] at ho
  cases ho
  refine PySem.call_dict_pairs (knd := mixKind X.prog X.w) (kvs := prs) (PairArg.tuple a (ps.map Value.ref).toArray (fun j => ps.getD j 0) vps) (I.ok.hd hcalm) ⟨⟨od, n, hg, hc, hod, hdat⟩, by simp [hl2], fun j k v e => ?_⟩ ⟨by rw [hl, hl2], fun i key v e => ?_⟩ (by rw [hl2]; exact hz) fun h' tk hd' k => ?_
  · obtain ⟨b, k', e1, e2, _, _⟩ := hpr j (k, v) e
    refine ⟨by simp [e1, List.getD_eq_getElem?_getD], .inl ?_⟩
    have : ps.getD j 0 = b := by rw [List.getD_eq_getElem?_getD, e1]; rfl
    show s.heap.IsTuple (ps.getD j 0) #[k, v]
    rw [this]
    exact e2
  · obtain ⟨b, k', e1, e2, e3, e4⟩ := hpr i (key, v) e
    exact ⟨k', e3, e4⟩
  · have hm : (s.heap.objs.size == sysModules) = false := beq_eq_false_iff_ne.mpr (Nat.ne_of_gt I.big)
    have hlen : (mergeK [] kvs).length ≤ sizeLine := by
      refine Nat.le_trans (length_mergeK kvs []) ?_
      rw [List.length_nil, Nat.zero_add, rel.length, hl]
      exact hz
    exact ⟨.ref s.heap.objs.size, upd H s.heap.objs.size (.dK (mergeK [] kvs)), I.laid (t' := tk) (fun b o e => k b o (by simp) e) (Nat.le_refl _) (show ObjOk X.prog X.w _ _ _ (.dK (mergeK [] kvs)) from ⟨hlen, hm, merged [] prs, KV.merge rel .nil, hd'⟩), rfl, q _ (I.hok.fresh (Nat.le_refl _))⟩
end
end L2
namespace DL
open PySem L2 PyProof.Rows
/-- the pairs of a list of pairs -/
def pairsD : List D → Option (List (Key × D))
  | [] => some []
  | .tup [k, v] :: r => match keyD k, pairsD r with
    | some x, some l => some ((x, v) :: l)
    | _, _ => none
  | _ => none
theorem pairsD_ok {K : PySem.W.Frag} {M : Mm} {H : Hp} : ∀ {ds : List D} {kvs : List (Key × D)} {vs : List V}, pairsD ds = some kvs → Reps K M H ds vs →
    ∃ (ps : List Addr) (kvv : List (Key × V)), vs = ps.map V.ref ∧ Ks K M H kvs kvv ∧ Paired (fun p kv => SqT K H p [kV kv.1, kv.2]) ps kvv
  | [], kvs, vs, h, r => by
    obtain rfl := Reps.nil_inv r
    cases h
    exact ⟨[], [], rfl, rfl, .nil⟩
  | d :: ds, kvs, vs, h, r => by
    obtain ⟨v, vr, rfl, r1, r2⟩ := Reps.inv r
    match d, h, r1 with
    | .tup [k, x], h, r1 =>
      cases e1 : keyD k with
      | none => rw [pairsD, e1] at h; cases h
      | some key =>
        cases e2 : pairsD ds with
        | none => rw [pairsD, e1, e2] at h; cases h
        | some l =>
          rw [pairsD, e1, e2] at h
          cases h
          obtain ⟨ps, kvv, rfl, h1, h2⟩ := pairsD_ok e2 r2
          obtain ⟨a, us, rfl, tp, ru⟩ := rep_tup.mp r1
          obtain ⟨u1, ur, rfl, q1, q2⟩ := Reps.inv ru
          obtain ⟨u2, ur2, rfl, q3, q4⟩ := Reps.inv q2
          obtain rfl := Reps.nil_inv q4
          obtain rfl := keyD_kV e1 q1
          exact ⟨a :: ps, (key, u2) :: kvv, rfl, ⟨u2, kvv, rfl, q3, h1⟩, .cons tp.sq h2⟩
section
variable {X : Cx} {J : Jc} {pos : Pos} {e : Expr} {te : TD}
/-- tuple(a list), its object known -/
@[simp] def tdTupX (t : TAd) : TD := fun σ M Q => t σ M fun xs M1 => ∃ x ds, xs = [x] ∧ vw M1 x = .lst ds ∧ ∀ p, M1 p = none → Q (.ref p) (mu M1 p (.tupX ds))
theorem de_tupX {t : TAd} {p : Pos} (hg : Gl X "tuple") (hm : X.mg "tuple" = none) (ha : DA J X [e] t)
    (he : starEach [e] X.env = (false, eval e X.env) :: starEach [] X.env := by rfl) (hpl : (backTo pos (starEach [] X.env)).any (·.1) = false := by rfl) : DE J X (.Call (.Name "tuple" p) [e] [] pos) (tdTupX t) := by
  refine PE.imp (pe_callTy call_tuple_X hg hm rfl ha (by decide) (by decide) he hpl) fun σ H Q ⟨σd, M, Φ, rs, rm, h, k⟩ => ?_
  refine ⟨σd, M, _, rs, rm, h, fun xs M1 vs H1 e1 rm1 r1 q1 => ?_⟩
  obtain ⟨x, ds, rfl, hv, q1⟩ := q1
  obtain ⟨v, rfl, rx⟩ := r1.one_inv
  have rv := rx.vr rm1
  rw [hv] at rv
  obtain ⟨a, us, rfl, hq, ru⟩ := vr_lst.mp rv
  refine ⟨a, us, rfl, hq, fun l od hl hod => ?_⟩
  have eN : Ev M1 H1 (mu M1 l (.tupX ds)) (upd H1 l (.frz od (.tup us))) := .newM hl
  exact k (.ref l) _ (.ref l) _ (e1.trans eN) (rm1.newM hl ⟨od, us, upd_same, hod, eN.reps _ _ ru⟩) (rep_ref.mpr rfl) (q1 l (rm1.free hl))
/-- dict(pairs): a list, or a tuple whose object is known -/
@[simp] def tdDictP (t : TAd) : TD := fun σ M Q => t σ M fun xs M1 => ∃ x ds kvs, xs = [x] ∧ (vw M1 x = .lst ds ∨ ∃ a, x = .ref a ∧ M1 a = some (.tupX ds)) ∧ pairsD ds = some kvs ∧ ∀ p, M1 p = none → Q (.ref p) (mu M1 p (.dic (mergeKD [] kvs)))
theorem dictP_end {M : Mm} {H : Hp} {kvs : List (Key × D)} {kvv : List (Key × V)} {p : Addr} (rm : RepM X.K M H) (hk : Ks X.K M H kvs kvv) (hp : H p = none) :
    Ev M H (mu M p (.dic (mergeKD [] kvs))) (upd H p (.dK (mergeK [] kvv))) ∧ RepM X.K (mu M p (.dic (mergeKD [] kvs))) (upd H p (.dK (mergeK [] kvv))) := by
  have eN : Ev M H (mu M p (.dic (mergeKD [] kvs))) (upd H p (.dK (mergeK [] kvv))) := .newM hp
  exact ⟨eN, rm.newM hp ⟨_, upd_same, eN.ks (hk.merge (fs := []) (vs := []) rfl)⟩⟩
/-- dict(xs), both ways -/
theorem call_dictX (hcalm : X.calm = true) : CallR X (.type "dict") (fun xs H Q => ∃ (a : Addr) (ps : List Addr) (kvs : List (Key × V)), xs = [.ref a] ∧ (SqL X.K H a (ps.map V.ref) ∨ ∃ od : Obj, H a = some (.frz od (.tup (ps.map V.ref))) ∧ od.dict = none) ∧ Paired (fun p kv => SqT X.K H p [kV kv.1, kv.2]) ps kvs ∧
    ∀ p, H p = none → Q (.ref p) (upd H p (.dK (mergeK [] kvs)))) := by
  intro pins s σ H xs us Q I r ⟨a, ps, kvs, ex, h, hp, q⟩
  rcases h with h | ⟨od, h1, h2⟩
  · exact call_dictP hcalm pins s σ H xs us Q I r ⟨a, ps, kvs, ex, h, hp, q⟩
  · exact call_dictPT hcalm pins s σ H xs us Q I r ⟨a, od, ps, kvs, ex, h1, h2, hp, q⟩
theorem de_dictP {t : TAd} {p : Pos} (hc : X.calm = true) (hg : Gl X "dict") (hm : X.mg "dict" = none) (ha : DA J X [e] t)
    (he : starEach [e] X.env = (false, eval e X.env) :: starEach [] X.env := by rfl) (hpl : (backTo pos (starEach [] X.env)).any (·.1) = false := by rfl) : DE J X (.Call (.Name "dict" p) [e] [] pos) (tdDictP t) := by
  refine PE.imp (pe_callTy (call_dictX hc) hg hm rfl ha (by decide) (by decide) he hpl) fun σ H Q ⟨σd, M, Φ, rs, rm, h, k⟩ => ?_
  refine ⟨σd, M, _, rs, rm, h, fun xs M1 vs H1 e1 rm1 r1 q1 => ?_⟩
  obtain ⟨x, ds, kvs, rfl, hv, hk, q1⟩ := q1
  obtain ⟨v, rfl, rx⟩ := r1.one_inv
  rcases hv with hv | ⟨a, rfl, hv⟩
  · have rv := rx.vr rm1
    rw [hv] at rv
    obtain ⟨a, us, rfl, hq, ru⟩ := vr_lst.mp rv
    obtain ⟨ps, kvv, rfl, h1, h2⟩ := pairsD_ok hk ru
    refine ⟨a, ps, kvv, rfl, .inl hq, h2, fun l hl => ?_⟩
    obtain ⟨eN, rN⟩ := dictP_end rm1 h1 hl
    exact k (.ref l) _ (.ref l) _ (e1.trans eN) rN (rep_ref.mpr rfl) (q1 l (rm1.free hl))
  · obtain rfl := rep_ref.mp rx
    obtain ⟨od, us, h1, h2, ru⟩ := rm1 a _ hv
    obtain ⟨ps, kvv, rfl, h3, h4⟩ := pairsD_ok hk ru
    refine ⟨a, ps, kvv, rfl, .inr ⟨od, h1, h2⟩, h4, fun l hl => ?_⟩
    obtain ⟨eN, rN⟩ := dictP_end rm1 h3 hl
    exact k (.ref l) _ (.ref l) _ (e1.trans eN) rN (rep_ref.mpr rfl) (q1 l (rm1.free hl))
end
end DL
/-! ### data in place of a ref -/
namespace DL
open PySem L2 PyProof.Rows
mutual
/-- the ref p is read as x -/
def subD (p : Addr) (x : D) : D → D
  | .ref a => if a = p then x else .ref a
  | .tup ds => .tup (subDs p x ds)
  | .lst ds => .lst (subDs p x ds)
  | .non => .non
  | .bl b => .bl b
  | .int i => .int i
  | .str s => .str s
  | .ty n => .ty n
def subDs (p : Addr) (x : D) : List D → List D
  | [] => []
  | d :: ds => subD p x d :: subDs p x ds
end
section
variable {K : PySem.W.Frag} {M : Mm} {H : Hp}
mutual
theorem Rep.sub {p : Addr} {x : D} (hx : Rep K M H x (.ref p)) : ∀ (d : D) (v : V), Rep K M H d v → Rep K M H (subD p x d) v
  | .non, v, h => by rw [subD]; exact h
  | .bl _, v, h => by rw [subD]; exact h
  | .int _, v, h => by rw [subD]; exact h
  | .str _, v, h => by rw [subD]; exact h
  | .ty _, v, h => by rw [subD]; exact h
  | .ref a, v, h => by
    rw [subD]
    by_cases e : a = p
    · rw [if_pos e]
      obtain rfl := rep_ref.mp h
      rw [e]
      exact hx
    · rw [if_neg e]
      exact h
  | .tup ds, v, h => by
    rw [subD]
    obtain ⟨a, vs, r, t, q⟩ := rep_tup.mp h
    exact rep_tup.mpr ⟨a, vs, r, t, Reps.sub hx ds vs q⟩
  | .lst ds, v, h => by
    rw [subD]
    obtain ⟨a, vs, r, t, q⟩ := rep_lst.mp h
    exact rep_lst.mpr ⟨a, vs, r, t, Reps.sub hx ds vs q⟩
theorem Reps.sub {p : Addr} {x : D} (hx : Rep K M H x (.ref p)) : ∀ (ds : List D) (vs : List V), Reps K M H ds vs → Reps K M H (subDs p x ds) vs
  | [], vs, h => by rw [subDs]; exact h
  | d :: ds, vs, h => by
    rw [subDs]
    obtain ⟨v, vr, rfl, r1, r2⟩ := Reps.inv h
    exact .cons (Rep.sub hx d v r1) (Reps.sub hx ds vr r2)
end
/-- a tuple whose object is known is its data -/
theorem tupX_rep {p : Addr} {l : List D} (rm : RepM K M H) (h : M p = some (.tupX l)) : Rep K M H (.tup l) (.ref p) := by
  obtain ⟨od, vs, h1, _, h2⟩ := rm p _ h
  exact rep_tup.mpr ⟨p, vs, rfl, .inl ⟨.inr ⟨l, h⟩, .inr ⟨od, h1⟩⟩, h2⟩
end
/-- the promise with a known tuple's ref for its data -/
def spSub (sp : SpD) : SpD := fun ds M Q E => ∃ p l, M p = some (.tupX l) ∧ sp (subDs p (.tup l) ds) M Q E
theorem lSp_sub {K : PySem.W.Frag} {mg : Str → Option Value} {sp : SpD} : ∀ vs H Q E, lSp K mg (spSub sp) vs H Q E → lSp K mg sp vs H Q E :=
  fun vs H Q E ⟨M, ds, Φ, Ψ, rm, rr, ⟨p, l, hp, h⟩, k1, k2⟩ => ⟨M, _, Φ, Ψ, rm, Reps.sub (tupX_rep rm hp) ds vs rr, h, k1, k2⟩
theorem FnG.sub {P : Program} {w : World} {K : PySem.W.Frag} {mg : Str → Option Value} {base : Heap} {k : Nat} {x : Str} {ps : List Str} {sp : SpD} (G : FnG P w K mg base k x ps sp) : FnG P w K mg base k x ps (spSub sp) :=
  let ⟨f, fd, a, b⟩ := G
  ⟨f, fd, a.imp lSp_sub, b⟩
/-! ### what lists hold now -/
mutual
/-- refs of lists read as what they hold -/
def nowD (M : Mm) : D → D
  | .ref a => match M a with
    | some (.lst ds) => .lst ds
    | some (.tupX ds) => .tup ds
    | _ => .ref a
  | .tup ds => .tup (nowDs M ds)
  | .lst ds => .lst (nowDs M ds)
  | .non => .non
  | .bl b => .bl b
  | .int i => .int i
  | .str s => .str s
  | .ty n => .ty n
def nowDs (M : Mm) : List D → List D
  | [] => []
  | d :: ds => nowD M d :: nowDs M ds
end
theorem nowDs_map {M : Mm} : ∀ ds : List D, nowDs M ds = ds.map (nowD M)
  | [] => rfl
  | d :: ds => by rw [nowDs, nowDs_map ds]; rfl
section
variable {K : PySem.W.Frag} {M : Mm} {H : Hp}
mutual
theorem Rep.now (rm : RepM K M H) : ∀ (d : D) (v : V), Rep K M H d v → Rep0 K H (nowD M d) v
  | .non, v, h => by rw [nowD]; exact h
  | .bl _, v, h => by rw [nowD]; exact h
  | .int _, v, h => by rw [nowD]; exact h
  | .str _, v, h => by rw [nowD]; exact h
  | .ty _, v, h => by rw [nowD]; exact h
  | .ref a, v, h => by
    have e : nowD M (.ref a) = vw M (.ref a) := by
      first
        | (rw [nowD, vw_refE]; done)
        | (rw [nowD, vw_refE]
           cases M a with
           | none => rfl
           | some o => cases o <;> rfl)
    rw [e]
    exact h.vw rm
  | .tup ds, v, h => by
    rw [nowD]
    obtain ⟨a, vs, r, t, q⟩ := rep_tup.mp h
    refine rep_tup.mpr ⟨a, vs, r, ?_, Reps.now rm ds vs q⟩
    rcases t with ⟨_, t⟩ | t
    · exact .inl ⟨.inl rfl, t⟩
    · exact .inr t
  | .lst ds, v, h => by
    rw [nowD]
    obtain ⟨a, vs, r, t, q⟩ := rep_lst.mp h
    refine rep_lst.mpr ⟨a, vs, r, ?_, Reps.now rm ds vs q⟩
    rcases t with ⟨_, t⟩ | t
    · exact .inl ⟨.inl rfl, t⟩
    · exact .inr t
theorem Reps.now (rm : RepM K M H) : ∀ (ds : List D) (vs : List V), Reps K M H ds vs → Reps K M0 H (nowDs M ds) vs
  | [], vs, h => by rw [nowDs]; exact h
  | d :: ds, vs, h => by
    rw [nowDs]
    obtain ⟨v, vr, rfl, r1, r2⟩ := Reps.inv h
    exact .cons (Rep.now rm d v r1) (Reps.now rm ds vr r2)
end
end
section
variable {X : Cx}
@[simp] def dEqN : R2d := fun M x y Q => ∃ b, eqC (nowD M x) 64 (nowD M y) = some b ∧ Q (.bl b)
@[simp] def dNeN : R2d := fun M x y Q => ∃ b, eqC (nowD M x) 64 (nowD M y) = some b ∧ Q (.bl (!b))
theorem op_dEqN (hu : X.A.units + 66 < cLine) : OpD X (compareOp .Eq) dEqN := by
  intro pins s σ H x y v u Q I rx ry h
  obtain ⟨M, a, b, Φ, rm, ra, rb, ⟨c, e, h⟩, k⟩ := h
  exact rc_at I 64 _ _ c x y v u X.A e (ra.now rm) (rb.now rm) rx ry (by omega) _ _ _ _ ⟨.bl c, H, I, rfl, k _ _ H .refl rm (rep_bl.mpr rfl) h⟩
theorem op_dNeN (hu : X.A.units + 66 < cLine) : OpD X (compareOp .NotEq) dNeN := by
  intro pins s σ H x y v u Q I rx ry h
  obtain ⟨M, a, b, Φ, rm, ra, rb, ⟨c, e, h⟩, k⟩ := h
  exact rcne_at I 64 _ _ c x y v u X.A e (ra.now rm) (rb.now rm) rx ry (by omega) _ _ _ _ ⟨.bl (!c), H, I, rfl, k _ _ H .refl rm (rep_bl.mpr rfl) h⟩
end
end DL
/-! ### a statement that walks over a dict; list(x) that is changed later -/
namespace DL
open PySem L2 PyProof.Rows
section
variable {X : Cx} {J : Jc} {pos : Pos} {e : Expr} {te : TD}
/-- while the dict at p is walked -/
@[simp] def tdLockS (t : TSd) : TSd := fun Δ σ M => ∃ p kvs, M p = some (.dic kvs) ∧ t ⟨fun σ' M' => Δ.nx σ' (mu M' p (.dic kvs)), fun d M' => Δ.rt d (mu M' p (.dic kvs)), fun σ' M' => Δ.bk σ' (mu M' p (.dic kvs)), fun σ' M' => Δ.ct σ' (mu M' p (.dic kvs))⟩ σ (mu M p (.dicL kvs))
theorem ds_lock {st : Stmt} {t : TSd} (h : DS J X st t) : DS J X st (tdLockS t) := by
  refine PS.imp (ps_lock h) fun D σ H ⟨σd, M, Δ, rs, rm, ⟨p, kvs, hp, h⟩, kn, kr, kb, kc⟩ => ?_
  obtain ⟨vs, h1, h2⟩ := rm p _ hp
  refine ⟨p, .dK vs, h1, trivial, fun od => ?_⟩
  have ns := notStillK hp
  have e0 : Ev M H (mu M p (.dicL kvs)) (upd H p (.frz od (.dK vs))) := .setM ns
  have sl : ∀ {M' H' σd' σ'}, Ev M H (mu M' p (.dic kvs)) (upd H' p (.dK vs)) → (∀ d v, Rep X.K M' H' d v → Rep X.K (mu M' p (.dic kvs)) (upd H' p (.dK vs)) d v) → RepS X.K J M' H' σd' σ' → RepS X.K J (mu M' p (.dic kvs)) (upd H' p (.dK vs)) σd' σ' := fun u2 u4 rs2 =>
    ⟨⟨rs2.1.1, J.cl rs.1.2 u2⟩, fun i d q => let ⟨v, a, b⟩ := rs2.2 i d q; ⟨v, a, u4 _ _ b⟩⟩
  refine ⟨σd, mu M p (.dicL kvs), _, e0.slots rs, rm.setM ns ⟨od, vs, upd_same, e0.ks h2⟩, h, fun σd' M' σ' H' e1 rs1 rm1 q1 => ?_, fun d M' v H' e1 rm1 r1 q1 => ?_, fun σd' M' σ' H' e1 rs1 rm1 q1 => ?_, fun σd' M' σ' H' e1 rs1 rm1 q1 => ?_⟩
  · obtain ⟨u1, u2, u3, u4⟩ := unlock hp h1 h2 e1 rm1
    exact ⟨u1, kn σd' _ σ' _ u2 (sl u2 u4 rs1) u3 q1⟩
  · obtain ⟨u1, u2, u3, u4⟩ := unlock hp h1 h2 e1 rm1
    exact ⟨u1, kr d _ v _ u2 u3 (u4 _ _ r1) q1⟩
  · obtain ⟨u1, u2, u3, u4⟩ := unlock hp h1 h2 e1 rm1
    exact ⟨u1, kb σd' _ σ' _ u2 (sl u2 u4 rs1) u3 q1⟩
  · obtain ⟨u1, u2, u3, u4⟩ := unlock hp h1 h2 e1 rm1
    exact ⟨u1, kc σd' _ σ' _ u2 (sl u2 u4 rs1) u3 q1⟩
/-- list(x), a new list that is changed later -/
@[simp] def tdLstCM (t : TAd) : TD := fun σ M Q => t σ M fun xs M1 => ∃ x ds, xs = [x] ∧ (vw M1 x = .lst ds ∨ vw M1 x = .tup ds) ∧ ∀ p, M1 p = none → Q (.ref p) (mu M1 p (.lst ds))
theorem de_lstCM {t : TAd} {p : Pos} (hg : Gl X "list") (hm : X.mg "list" = none) (ha : DA J X [e] t)
    (he : starEach [e] X.env = (false, eval e X.env) :: starEach [] X.env := by rfl) (hpl : (backTo pos (starEach [] X.env)).any (·.1) = false := by rfl) : DE J X (.Call (.Name "list" p) [e] [] pos) (tdLstCM t) := by
  refine PE.imp (pe_callTy call_list_of hg hm rfl ha (by decide) (by decide) he hpl) fun σ H Q ⟨σd, M, Φ, rs, rm, h, k⟩ => ?_
  refine ⟨σd, M, _, rs, rm, h, fun xs M1 vs H1 e1 rm1 r1 q1 => ?_⟩
  obtain ⟨x, ds, rfl, hv, q1⟩ := q1
  obtain ⟨v, rfl, rx⟩ := r1.one_inv
  have rv := rx.vr rm1
  have fin : ∀ (us : List V) (l : Addr), Reps X.K M1 H1 ds us → H1 l = none → Q (.ref l) (upd H1 l (.lst us)) := fun us l ru hl => by
    have eN : Ev M1 H1 (mu M1 l (.lst ds)) (upd H1 l (.lst us)) := .newM hl
    exact k (.ref l) _ (.ref l) _ (e1.trans eN) (rm1.newM hl ⟨us, upd_same, eN.reps _ _ ru⟩) (rep_ref.mpr rfl) (q1 l (rm1.free hl))
  rcases hv with hv | hv
  · rw [hv] at rv
    obtain ⟨a, us, rfl, hq, ru⟩ := vr_lst.mp rv
    exact ⟨a, us, rfl, .inl hq, fun l hl => fin us l ru hl⟩
  · rw [hv] at rv
    obtain ⟨a, us, rfl, hq, ru⟩ := rep_tup.mp (vr_tup rv)
    exact ⟨a, us, rfl, .inr hq.sq, fun l hl => fin us l ru hl⟩
end
end DL
namespace DL
open PySem L2 PyProof.Rows
/-- a known tuple's ref, read as its data -/
@[simp] def tdData (te : TD) : TD := fun σ M Q => te σ M fun x M1 => ∃ p l, x = .ref p ∧ M1 p = some (.tupX l) ∧ Q (.tup l) M1
theorem de_data {X : Cx} {J : Jc} {e : Expr} {te : TD} (he : DE J X e te) : DE J X e (tdData te) := by
  refine PE.imp he fun σ H Q ⟨σd, M, Φ, rs, rm, h, k⟩ => ?_
  refine ⟨σd, M, _, rs, rm, h, fun x M1 v H1 e1 rm1 r1 q1 => ?_⟩
  obtain ⟨p, l, rfl, hp, q1⟩ := q1
  obtain rfl := rep_ref.mp r1
  exact k _ M1 _ H1 e1 rm1 (tupX_rep rm1 hp) q1
end DL

set_option Elab.async false
set_option linter.all false
set_option maxRecDepth 100000
/-! DLSet: set(a list of texts), its length, its sorted list. -/
namespace DLSet
open PySem PySem.Spec PyProof.Rows L2
def keyS (e : Int × Value) : Str := match e.2 with
  | .str k _ => k
  | _ => Str.empty
def GoodS (w : World) (e : Int × Value) : Prop := ∃ k tk, e.2 = Value.str k tk ∧ e.1 = hashStr w k
/-- at a stands a set of texts: S tells its members -/
def TxS (w : World) (h : Heap) (a : Addr) (S : Str → Bool) (n : Nat) : Prop :=
  ∃ o es ep t, h.get? a = some o ∧ o.ExactSet ∧ o.data = .set es ep t ∧ (∀ e ∈ es.toList, GoodS w e) ∧ (es.toList.map keyS).Nodup ∧ (∀ k, S k = true ↔ k ∈ es.toList.map keyS) ∧
    es.size < scanBound ∧ t.fits es.size = true ∧ es.size = n ∧ Ris t.place.toList ∧ (w.params.followText "set-order" = true ∨ t.led = true)
section
variable {P : Program} {w : World} {A : Around} {E : Value → Shared → Prop} {s : Shared} {h h' : Heap} {a : Addr} {S : Str → Bool} {n : Nat}
theorem TxS.at (R : TxS w h a S n) (k : ∀ o, h.get? a = some o → h'.get? a = some o) : TxS w h' a S n := by
  obtain ⟨o, es, ep, t, ho, r⟩ := R
  exact ⟨o, es, ep, t, k o ho, r⟩
theorem goodS_elems {l : List (Int × Value)} (g : ∀ e ∈ l, GoodS w e) : ElemsOf (strKind P w) l := fun e he => by
  obtain ⟨k, tk, e1, e2⟩ := g e he
  refine ⟨⟨k, by rw [e1]; exact strKind_is P w k tk, e2⟩, by rw [e1]; rfl⟩
theorem goodS_mem {l : List (Int × Value)} (g : ∀ e ∈ l, GoodS w e) (k : Str) : k ∈ l.map keyS ↔ ∃ e ∈ l, (strKind P w).is k e.2 = true := by
  constructor
  · intro hk
    obtain ⟨e, he, q⟩ := List.mem_map.mp hk
    obtain ⟨k', tk, e1, _⟩ := g e he
    refine ⟨e, he, ?_⟩
    have : keyS e = k' := by unfold keyS; rw [e1]
    rw [← q, this, e1]
    exact strKind_is P w k' tk
  · rintro ⟨e, he, q⟩
    obtain ⟨k', tk, e1, _⟩ := g e he
    refine List.mem_map.mpr ⟨e, he, ?_⟩
    have z : keyS e = k' := by unfold keyS; rw [e1]
    rw [z]
    rw [e1] at q
    exact (strKind P w).inj (.str k' tk) k' k (strKind_is P w k' tk) q
theorem txS_tail {g : Bool → Sem Unit} (hg : ∀ (b : Bool) (s₁ : Shared) (Q' : Unit → Shared → Prop), Q' () s₁ → wpAny (model P w) A (g b) Q' E s₁)
    {o : Obj} {es : Array (Int × Value)} {ep : Nat} {t : SetTable} (ho : s.heap.get? a = some o) (hex : o.ExactSet) (hd : o.data = .set es ep t)
    {es1 : Array (Int × Value)} {t2 : SetTable} {S' : Str → Bool} (g1 : ∀ e ∈ es1.toList, GoodS w e) (nd1 : (es1.toList.map keyS).Nodup) (m1 : ∀ k, S' k = true ↔ k ∈ es1.toList.map keyS)
    (hb1 : es1.size < scanBound) (hf2 : t2.fits es1.size = true) (hr : Ris t2.place.toList) (hl : w.params.followText "set-order" = true ∨ t2.led = true) {wasDummy : Bool} {R : Option Bool → Shared → Prop}
    (hR : ∀ h', Heap.SameBut a s.heap h' → TxS w h' a S' es1.size → R (some true) { s with heap := h' }) :
    wpAny (model P w) A (do
        storeSet a es1 t2
        if (!wasDummy && t2.tooFull) = true then do
            g (relayAll t2 es1 (SetTable.grown es1.size)).2.2
            storeSet a (relayAll t2 es1 (SetTable.grown es1.size)).1 (relayAll t2 es1 (SetTable.grown es1.size)).2.1
            pure (some true)
          else pure (some true)) R E s := by
  refine wpAny_bind (wpAny_storeSet_of ho hd ?_ (fits_of_scanBound hb1))
  have ho1 := store_at (es' := es1) (t' := t2) ho hd
  have sb1 := Heap.SameBut.update s.heap a (Obj.putSet es1 t2)
  by_cases hc : (!wasDummy && t2.tooFull) = true
  · rw [if_pos hc]
    have pm := relayAll_perm t2 es1 (SetTable.grown es1.size)
    have hf3 := relayAll_fits t2 es1 (SetTable.grown es1.size)
    have hr3 := relayAll_ris t2 es1 (SetTable.grown es1.size)
    have hl3 := relayAll_led t2 es1 (SetTable.grown es1.size)
    generalize relayAll t2 es1 (SetTable.grown es1.size) = Z at pm hf3 hr3 hl3 ⊢
    obtain ⟨es2, t3, gave⟩ := Z
    dsimp only at pm hf3 hr3 hl3 ⊢
    have hsz : es2.size = es1.size := by rw [← Array.length_toList, pm.length_eq, Array.length_toList]
    have hb2 : es2.size < scanBound := hsz ▸ hb1
    refine wpAny_bind (hg _ _ _ ?_)
    refine wpAny_bind (wpAny_storeSet_of ho1 rfl ?_ (fits_of_scanBound hb2))
    have ho2 := store_at (es' := es2) (t' := t3) ho1 rfl
    refine wpAny_pure (hR _ (sb1.trans (Heap.SameBut.update _ a _)) ⟨_, es2, _, t3, ho2, hex, rfl, ?_, ?_, ?_, hb2, hf3, hsz, hr3, hl.imp id (hl3.trans ·)⟩)
    · intro e he
      exact g1 e (pm.mem_iff.mp he)
    · exact (pm.map keyS).nodup_iff.mpr nd1
    · intro k
      rw [m1 k, (pm.map keyS).mem_iff]
  · rw [if_neg hc]
    exact wpAny_pure (hR _ sb1 ⟨_, es1, _, t2, ho1, hex, rfl, g1, nd1, m1, hb1, hf2, rfl, hr, hl⟩)
theorem txS_add {k : Str} {tk : Tok} {Q : Bool → Shared → Prop} (R : TxS w s.heap a S n) (room : n + 1 < scanBound)
    (hQ : ∀ h', Heap.SameBut a s.heap h' → TxS w h' a (fun j => S j || decide (j = k)) (if S k = true then n else n + 1) → Q (!S k) { s with heap := h' }) :
    wpAny (model P w) A (setAddHashed a (.str k tk) ((strKind P w).hash k)) Q E s := by
  obtain ⟨o, es, ep, t, ho, hex, hd, g, nd, hm, hb, hf, hn, hr, hl⟩ := R
  have hkey : (strKind P w).is k (.str k tk) = true := strKind_is P w k tk
  have hsc : (Value.str k tk).scannable = true := rfl
  have hel : ElemsOf (strKind P w) es.toList := goodS_elems g
  unfold setAddHashed setAddHashedIn
  refine wpAny_holding (wpAny_bind (wpAny_setState_of ho hd hf ?_))
  dsimp only
  rw [byScan_of hsc hb hel]
  simp only [↓reduceIte]
  unfold setAddByScan
  refine wpAny_bind ?_
  refine wpAny_bind (wpAny_rule ?_)
  refine wpAny_bind (wpAny_setScan_of hkey ho hd hf hel ?_)
  have gw : ∀ (b : Bool) {s₁ : Shared} {Q' : Unit → Shared → Prop}, Q' () s₁ → wpAny (model P w) A (match b with | true => rule "set.scan.the-table-gave-way" | false => pure ()) Q' E s₁ := by
    intro b s₁ Q' q
    cases b
    · exact wpAny_pure q
    · exact wpAny_rule q
  cases hfi : List.findIdx? (fun e => (strKind P w).is k e.2) es.toList with
  | some j =>
    dsimp only
    obtain ⟨hj, pj, _⟩ := List.findIdx?_eq_some_iff_getElem.mp hfi
    have hSk : S k = true := (hm k).2 ((goodS_mem (P := P) g k).2 ⟨_, List.getElem_mem hj, pj⟩)
    have q := hQ s.heap (Heap.SameBut.refl a s.heap) ⟨o, es, ep, t, ho, hex, hd, g, nd, fun i => ?_, hb, hf, by rw [if_pos hSk]; exact hn, hr, hl⟩
    · rw [hSk] at q
      exact wpAny_pure (wpAny_pure q)
    · rw [← hm i, Bool.or_eq_true, decide_eq_true_eq]
      constructor
      · rintro (z | z)
        · exact z
        · exact z ▸ hSk
      · exact .inl
  | none =>
    dsimp only
    have hnk : k ∉ es.toList.map keyS := fun z => by
      obtain ⟨e, he, q⟩ := (goodS_mem (P := P) g k).1 z
      have c := List.findIdx?_eq_none_iff.mp hfi e he
      rw [q] at c
      cases c
    have hSk : S k = false := by
      cases q : S k
      · rfl
      · exact absurd ((hm k).1 q) hnk
    have pm := layNew_perm t es ((strKind P w).hash k) (.str k tk)
    have hf1 := layNew_fits t es ((strKind P w).hash k) (.str k tk)
    have hr1 := layNew_ris t es ((strKind P w).hash k) (.str k tk) hr
    have hl1 := layNew_led t es ((strKind P w).hash k) (.str k tk)
    generalize layNew t es ((strKind P w).hash k) (.str k tk) = Z at pm hf1 hr1 hl1 ⊢
    obtain ⟨es1, t1, wasDummy, gave⟩ := Z
    dsimp only at pm hf1 hr1 hl1 ⊢
    rw [Array.toList_push] at pm
    have pc : es1.toList.Perm (((strKind P w).hash k, Value.str k tk) :: es.toList) := pm.trans (List.perm_append_singleton _ _)
    have pk : (es1.toList.map keyS).Perm (k :: es.toList.map keyS) := pc.map keyS
    have g1 : ∀ e ∈ es1.toList, GoodS w e := fun e he => by
      rcases List.mem_cons.mp (pc.mem_iff.mp he) with z | z
      · exact z ▸ ⟨k, tk, rfl, rfl⟩
      · exact g e z
    have nd1 : (es1.toList.map keyS).Nodup := pk.nodup_iff.mpr (List.nodup_cons.mpr ⟨hnk, nd⟩)
    have m1 : ∀ i, (S i || decide (i = k)) = true ↔ i ∈ es1.toList.map keyS := fun i => by
      rw [pk.mem_iff, List.mem_cons, ← hm i, Bool.or_eq_true, decide_eq_true_eq]
      exact Or.comm
    have hsz : es1.size = n + 1 := by rw [← Array.length_toList, pc.length_eq, List.length_cons, Array.length_toList, hn]
    have hb1 : es1.size < scanBound := hsz ▸ room
    have hled : w.params.followText "set-order" = true ∨ t1.led = true := hl.imp id (hl1.trans ·)
    have fin : ∀ h', Heap.SameBut a s.heap h' → TxS w h' a (fun j => S j || decide (j = k)) es1.size → Q true { s with heap := h' } := fun h' sb r => by
      have q := hQ h' sb
      rw [hSk] at q
      exact q (hsz ▸ r)
    refine wpAny_bind (gw _ ?_)
    split
    · refine wpAny_bind ?_
      rw [hashByValue_scannable 8 hsc]
      refine wpAny_pure ?_
      refine txS_tail ?_ ho hex hd g1 nd1 m1 hb1 ?_ ?_ ?_ ?_
      · intro b s₁ Q' q; exact gw b q
      · first | exact hf1 | (split <;> first | exact hf1 | exact SetTable.fits_plain_off hf1)
      · first | exact hr1 | (split <;> exact hr1)
      · first | exact hled | (split <;> exact hled)
      · intro h' sb r
        dsimp only
        exact wpAny_pure (fin h' sb r)
    · refine wpAny_bind (wpAny_pure ?_)
      simp only [↓reduceIte]
      refine txS_tail ?_ ho hex hd g1 nd1 m1 hb1 hf1 hr1 hled ?_
      · intro b s₁ Q' q; exact gw b q
      · intro h' sb r
        dsimp only
        exact wpAny_pure (fin h' sb r)
theorem txS_fresh {h : Heap} (w : World) : TxS w (h.push { cls := .type "set", dict := none, data := .set #[] 0 (.fresh 0 0 (!w.params.followText "set-order")) }) h.objs.size (fun _ => false) 0 := by
  refine ⟨_, #[], 0, _, Heap.get?_push_size _ rfl, ⟨rfl, rfl, rfl⟩, rfl, fun e he => by simp at he, by simp, fun k => by simp, by decide, by rfl, rfl, List.Pairwise.nil, ?_⟩
  show _ ∨ (!w.params.followText "set-order") = true
  cases w.params.followText "set-order" <;> simp
end
/-! ### the texts met so far -/
def metS (xs : List Str) : List Str := xs.foldl (fun acc x => if x ∈ acc then acc else acc ++ [x]) []
theorem metS_snoc (xs : List Str) (x : Str) : metS (xs ++ [x]) = if x ∈ metS xs then metS xs else metS xs ++ [x] := by
  unfold metS
  rw [List.foldl_append]
  rfl
theorem metS_all (xs : List Str) : (∀ x, x ∈ metS xs ↔ x ∈ xs) ∧ (metS xs).Nodup ∧ (metS xs).length ≤ xs.length := by
  generalize hn : xs.length = n
  induction n generalizing xs with
  | zero =>
    have : xs = [] := List.eq_nil_of_length_eq_zero hn
    rw [this]
    exact ⟨fun x => Iff.rfl, List.nodup_nil, Nat.le_refl _⟩
  | succ n ih =>
    obtain ⟨ys, y, e⟩ : ∃ ys y, xs = ys ++ [y] := ⟨xs.dropLast, xs.getLast (List.ne_nil_of_length_eq_add_one hn), (List.dropLast_concat_getLast _).symm⟩
    subst e
    rw [List.length_append, List.length_singleton] at hn
    obtain ⟨h1, h2, h3⟩ := ih ys (by omega)
    rw [metS_snoc]
    by_cases hm : y ∈ metS ys
    · rw [if_pos hm]
      refine ⟨fun x => ?_, h2, by omega⟩
      rw [h1, List.mem_append, List.mem_singleton]
      constructor
      · exact .inl
      · rintro (z | z)
        · exact z
        · exact z ▸ (h1 y).mp hm
    · rw [if_neg hm]
      refine ⟨fun x => ?_, ?_, ?_⟩
      · rw [List.mem_append, List.mem_append, h1]
      · refine List.nodup_append.mpr ⟨h2, by simp, fun a ha b hb => ?_⟩
        rw [List.mem_singleton] at hb
        subst hb
        intro z
        exact hm (z ▸ ha)
      · rw [List.length_append, List.length_singleton]
        omega
theorem metS_mem (xs : List Str) (x : Str) : x ∈ metS xs ↔ x ∈ xs := (metS_all xs).1 x
theorem metS_nodup (xs : List Str) : (metS xs).Nodup := (metS_all xs).2.1
theorem metS_len (xs : List Str) : (metS xs).length ≤ xs.length := (metS_all xs).2.2
section
variable {prog : Program} {w : World} {A : Around} {R : Result → Shared → Prop} {I : Addr} {fp wr : List Addr} {G : Array GenState → Array GenState → Prop} {n : Nat} {P : Nat → Value → Prop} {St : Nat → Shared → Prop}
/-- the texts drawn go into the set at S -/
theorem loopTx (W : WalksS prog w A.in1 I fp wr G n P St) (S : Addr) (hSf : S ∉ fp) (xs : List Str) (hsz : xs.length = n) (hb : n + 1 < scanBound)
    (hval : ∀ i v, P i v → ∃ t, v = .str (xs.getD i Str.empty) t) :
    ∀ (k i : Nat) (s : Shared), n - i = k → i ≤ n → St i s → TxS w s.heap S (fun k' => decide (k' ∈ metS (xs.take i))) (metS (xs.take i)).length →
      (∀ s', Moved (S :: wr) G s s' → TxS w s'.heap S (fun k' => decide (k' ∈ metS xs)) (metS xs).length → R (.ok (.ret .none)) s') →
      codeAny (model prog w) A (.builtin "set.update.loop" ⟨[.ref S, .ref I], []⟩) R s := by
  have hSw : S ∉ wr := fun h => hSf (W.sub _ h)
  have hsub : ∀ b ∈ wr, b ∈ S :: wr := fun b hb => List.mem_cons_of_mem _ hb
  intro k
  induction k with
  | zero =>
    intro i s hk hi hst hS hR
    have hin : i = n := by omega
    subst hin
    rw [← hsz, List.take_length] at hS
    refine codeAny_builtin PyProof.Rows.F.entry_set_update_loop ?_
    rw [Around.under_plainId PyProof.Rows.F.plain_set_update_loop _]
    show wpAny _ A.in1 (pyNext (.ref I) >>= _) _ _ s
    refine wpAny_bind (W.done s _ _ hst fun s' hm => ?_)
    show wpAny _ A.in1 (ret Value.none) _ _ s'
    exact wpAny_pure (hR s' (hm.mono hsub) (hS.at fun o e => hm.heap S o hSw e))
  | succ k ih =>
    intro i s hk hi hst hS hR
    have hlt : i < n := by omega
    refine codeAny_builtin PyProof.Rows.F.entry_set_update_loop ?_
    rw [Around.under_plainId PyProof.Rows.F.plain_set_update_loop _]
    show wpAny _ A.in1 (pyNext (.ref I) >>= _) _ _ s
    refine wpAny_bind (W.item i s _ _ hlt hst fun v s' hP hst' hm => ?_)
    obtain ⟨t, rfl⟩ := hval i v hP
    have hS' := hS.at (h' := s'.heap) fun o e => hm.heap S o hSw e
    show wpAny _ A.in1 (holding [Value.str (xs.getD i Str.empty) t] (setAdd S (.str (xs.getD i Str.empty) t)) >>= _) _ _ s'
    refine wpAny_bind (wpAny_holding ?_)
    unfold setAdd
    refine wpAny_holding ?_
    refine wpAny_bind ((PySem.strKind prog w).pyHash (k := xs.getD i Str.empty) (strKind_is _ _ _ _) ?_)
    have hml := metS_len (xs.take i)
    rw [List.length_take] at hml
    refine txS_add (s := { s' with toks := s'.toks + 1 }) hS' (by omega) fun h' hsb hS2 => ?_
    have hSi : TxS w h' S (fun k' => decide (k' ∈ metS (xs.take (i + 1)))) (metS (xs.take (i + 1))).length := by
      have hx : xs.take (i + 1) = xs.take i ++ [xs.getD i Str.empty] := by
        rw [List.take_add_one, List.getElem?_eq_getElem (by omega)]
        simp [List.getD_eq_getElem?_getD, List.getElem?_eq_getElem (show i < xs.length by omega)]
      rw [hx, metS_snoc]
      by_cases hm' : xs.getD i Str.empty ∈ metS (xs.take i)
      · rw [if_pos hm']
        rw [if_pos (decide_eq_true hm')] at hS2
        have e : (fun j => decide (j ∈ metS (xs.take i)) || decide (j = xs.getD i Str.empty)) = fun k' => decide (k' ∈ metS (xs.take i)) := by
          funext j
          by_cases hj : j = xs.getD i Str.empty
          · rw [hj, decide_eq_true hm']; rfl
          · rw [decide_eq_false hj, Bool.or_false]
        rw [e] at hS2
        exact hS2
      · rw [if_neg hm']
        rw [if_neg (by rw [decide_eq_true_iff]; exact hm')] at hS2
        have e : (fun j => decide (j ∈ metS (xs.take i)) || decide (j = xs.getD i Str.empty)) = fun k' => decide (k' ∈ metS (xs.take i) ++ [xs.getD i Str.empty]) := by
          funext j
          rw [Bool.eq_iff_iff]
          simp
        rw [e] at hS2
        rw [List.length_append]
        exact hS2
    refine wpAny_pure ⟨plainId_quiet PyProof.Rows.F.plain_set_update_loop _, ih (i + 1) _ (by omega) hlt (W.frame _ s' _ _ hst' (Nat.le_succ _) fun b hb o e => ?_) hSi fun s'' hm'' hS'' => ?_⟩
    · rw [hsb.2 b (fun h : b = S => hSf (by rw [← h]; exact hb))]; exact e
    · refine hR s'' (Moved.trans W.gtrans ((hm.mono hsub).then_heap (Nat.le_succ _) fun b o hb e => ?_) hm'') hS''
      rw [hsb.2 b (fun h : b = S => hb (by rw [h]; exact List.mem_cons_self))]; exact e
end
section
variable {prog : Program} {w : World} {A : Around} {E : Value → Shared → Prop} {s : Shared}
theorem code_set_led1 (a : Value) {Q₁ : Value → Shared → Prop}
    (h : Q₁ (.ref s.heap.objs.size) { s with heap := s.heap.push { cls := .type "set", dict := none, data := .set #[] 0 (.fresh 0 0 (!w.params.followText "set-order")) } }) :
    codeAny (model prog w) A (.call (.builtin "set.__new__") ⟨[.type "set", a], []⟩) (wants Q₁ E) s := by
  refine codeAny_of_tree ?_
  show wpAny _ A.in1 (do checkBuiltinCall "set.__new__" ⟨[.type "set", a], []⟩; again (.builtin "set.__new__" ⟨[.type "set", a], []⟩)) _ _ s
  refine wpAny_bind (wpAny_of_eq (PySem.F.newCall_set_1 a) (wpAny_pure ⟨plainId_quiet PySem.F.plain_set_new _, codeAny_builtin PySem.F.entry_set_new ?_⟩))
  rw [Around.under_plainId PySem.F.plain_set_new _]
  unfold Builtin.«set.__new__» Builtin.Frozenset.newClass
  have hsub := sub_set_self
  obtain ⟨hp, g, d, tk, os⟩ := s
  dsimp only
  wp_walk
  refine wpAny_askSetting (wpAny_pure ?_)
  dsimp only
  simp only [newObj]
  refine wpAny_bind (wpAny_alloc (wpAny_pure ?_))
  exact wpAny_pure h
set_option maxHeartbeats 3200000 in
/-- set(a list of texts) -/
theorem call_set_tx {l : Addr} {items : Array Value} {xs : List Str} {Q : Value → Shared → Prop}
    (hh : A.handled = none) (hl : s.heap.IsList l items) (hi : PyProof.Rows.StrsAre items.toList xs) (hb : xs.length + 1 < scanBound)
    (h : ∀ (h' : Heap) (tk : Nat), TxS w h' s.heap.objs.size (fun k' => decide (k' ∈ metS xs)) (metS xs).length →
      (∀ b o, b < s.heap.objs.size → s.heap.get? b = some o → h'.get? b = some o) → Q (.ref s.heap.objs.size) { s with heap := h', toks := tk }) :
    wpAny (model prog w) A (call (.type "set") [.ref l]) Q E s := by
  obtain ⟨c, tl, hmro⟩ := PySem.F.called_set.mro
  have hmade := PySem.F.called_set.made
  have hsub := PySem.F.called_set.sub
  refine wpAny_call (codeAny_of_tree ?_)
  show wpAny _ _ (callAny (.type "set") _) _ _ _
  refine wpAny_pure ⟨Code.quiet_builtin _ (by decide +kernel), codeAny_builtin PySem.F.entry_type_call ?_⟩
  rw [Around.under_plain (weight_type_call_type "set" [.ref l] []) rfl]
  have h1 := PySem.F.called_set.notType
  have h2 := PySem.F.called_set.canCreate
  have hct := PySem.F.typeCall_set_1 (.ref l)
  repeat (any_goals (first | assumption | wp_step))

  refine codeAny_mono (code_set_led1 (.ref l) (E := E) (Q₁ := fun obj s₁ => obj = .ref s.heap.objs.size ∧ s₁ = { s with heap := s.heap.push { cls := .type "set", dict := none, data := .set #[] 0 (.fresh 0 0 (!w.params.followText "set-order")) } }) ⟨rfl, rfl⟩) fun r s₁ hr => ?_
  cases r with
  | error e => exact hr
  | ok fl =>
    cases fl with
    | ret obj =>
      obtain ⟨rfl, rfl⟩ := hr
      have hnew := txS_fresh (h := s.heap) w
      generalize (!w.params.followText "set-order") = led at hnew ⊢
      have hS : (s.heap.push { cls := .type "set", dict := none, data := .set #[] 0 (.fresh 0 0 led) }).get? s.heap.objs.size = some { cls := .type "set", dict := none, data := .set #[] 0 (.fresh 0 0 led) } := Heap.get?_push_size _ rfl
      have hT : Shared.TypeIs { s with heap := s.heap.push { cls := .type "set", dict := none, data := .set #[] 0 (.fresh 0 0 led) } } (.ref s.heap.objs.size) "set" := ⟨_, hS, rfl⟩
      have hli := PySem.F.called_set.init.lookup
      have hbi := PySem.F.called_set.init.bind (.ref s.heap.objs.size)
      repeat (any_goals (first | assumption | wp_step))

      refine codeAny_mono (codeAny_call_builtin (R := wants (fun r s₂ => r = .none ∧ ∃ h' tk, s₂ = { s with heap := h', toks := tk } ∧
          TxS w h' s.heap.objs.size (fun k' => decide (k' ∈ metS xs)) (metS xs).length ∧
          (∀ b o, b < s.heap.objs.size → s.heap.get? b = some o → h'.get? b = some o)) E) PySem.F.called_set.init.plain PySem.F.entry_set_init (check_set_init_1 hT ?_)) fun r₂ s₂ hr₂ => ?_
      · obtain ⟨ol, hol, hcl, nl, hdl⟩ := hl
        obtain ⟨ocls, odict, odata, oslots⟩ := ol
        simp only at hcl hdl
        subst hcl; subst hdl
        have hol' : (s.heap.push { cls := .type "set", dict := none, data := .set #[] 0 (.fresh 0 0 led) }).get? l = some { cls := .type "list", dict := odict, data := .seq items nl, slots := oslots } := Heap.get?_push_of_some _ hol
        have hsls := PySem.F.sub_list_set
        have hslf := PySem.F.sub_list_frozenset
        have hne : (Value.type "list" == Value.type "dict") = false := by decide
        have hl1 : (s.heap.push { cls := .type "set", dict := none, data := .set #[] 0 (.fresh 0 0 led) }).IsList l items := ⟨_, hol', rfl, nl, rfl⟩
        unfold Builtin.«set.__init__» noKeywords Builtin.Frozenset.updateFrom
        generalize hPI : pyIter = PI
        wp_walk
        subst hPI

        refine wpAny_pyIter_list hl1 ?_
        refine wpAny_bind (wpAny_runValue ?_)
        have hlS : l < s.heap.objs.size := Heap.lt_size hol
        have hh3 : A.in1.in1.in1.handled = none := by simp [hh]
        have hneI : l ≠ (s.heap.push { cls := .type "set", dict := none, data := .set #[] 0 (.fresh 0 0 led) }).objs.size := by
          rw [Heap.size_push]; exact Nat.ne_of_lt (Nat.lt_succ_of_lt hlS)
        have hSf : s.heap.objs.size ∉ [(s.heap.push { cls := .type "set", dict := none, data := .set #[] 0 (.fresh 0 0 led) }).objs.size, l] := by
          rw [Heap.size_push]; simp only [List.mem_cons, List.mem_singleton, List.not_mem_nil, or_false, not_or]
          exact ⟨Nat.ne_of_lt (Nat.lt_succ_self _), Nat.ne_of_gt hlS⟩
        have hsz : xs.length = items.size := by rw [← StrsAre.len_eq hi, Array.length_toList]
        have hval : ∀ (i : Nat) (v : Value), items[i]? = some v → ∃ t, v = .str (xs.getD i Str.empty) t := fun i v hv => SS.strs_at hi i v (by rw [Array.getElem?_toList]; exact hv)
        refine loopTx ((Walks.list hh3 _ l hneI items).toS) s.heap.objs.size
          hSf xs hsz (by rw [← hsz]; exact hb) hval (items.size - 0) 0 _ (by omega) (Nat.zero_le _)
          ⟨⟨_, Heap.get?_push_size _ rfl, rfl, rfl⟩, (hl1.push _)⟩ ?hS0 ?hR
        case hS0 =>
          exact hnew.at fun o e => Heap.get?_push_of_some _ e
        case hR =>
          intro s' hm hS'
          obtain ⟨h', g', d', tk', os'⟩ := s'
          have eg : g' = s.gens := hm.gens
          have ed : d' = s.drawn := hm.drawn
          have eo : os' = s.os := hm.os
          subst eg; subst ed; subst eo
          show wpAny _ _ _ _ _ _
          refine wpAny_pure ?_
          show wpAny _ _ (ret Value.none) _ _ _
          refine wpAny_pure ⟨rfl, h', tk', rfl, hS', fun b o hb e => ?_⟩
          have hb1 : b ≠ s.heap.objs.size := Nat.ne_of_lt hb
          have hb2 : b ≠ (s.heap.push { cls := .type "set", dict := none, data := .set #[] 0 (.fresh 0 0 led) }).objs.size := by
            rw [Heap.size_push]; exact Nat.ne_of_lt (Nat.lt_succ_of_lt hb)
          exact hm.heap b o (by simp only [List.mem_cons, List.mem_singleton, List.not_mem_nil, or_false, not_or]; exact ⟨hb1, hb2⟩) (Heap.get?_push_of_some _ (Heap.get?_push_of_some _ e))

      · cases r₂ with
        | error e => exact hr₂
        | ok fl₂ =>
          cases fl₂ with
          | ret r =>
            obtain ⟨rfl, h', tk, rfl, hS', hk'⟩ := hr₂
            repeat (any_goals (first | assumption | wp_step))
            exact h _ _ hS' hk'
          | _ => exact hr₂.elim
    | _ => exact hr.elim
theorem strs_ofS : ∀ (l : List Value), (∀ v ∈ l, ∃ k tk, v = Value.str k tk) → StrsAre l (l.map strOf)
  | [], _ => .nil
  | v :: l, h => by
    obtain ⟨k, tk, rfl⟩ := h v List.mem_cons_self
    exact .cons k tk (strs_ofS l fun u hu => h u (List.mem_cons_of_mem _ hu))
/-- sorted(a set of texts) -/
theorem sorted_tx {a : Addr} {S : Str → Bool} {n : Nat} {Q : Value → Shared → Prop} (R : TxS w s.heap a S n) (hh : A.handled = none) (hn0 : n + 1 < scanBound)
    (hQ : ∀ s' p (out : Array Value) (c : Nat) (ns : List Str), (∀ b o, s.heap.get? b = some o → s'.heap.get? b = some o) → s'.gens = s.gens → s'.os = s.os → s.heap.objs.size ≤ p →
      s'.heap.get? p = some (seqObj "list" out c) → StrsAre out.toList ns → sortedS ns = true → ns.Nodup → (∀ k, k ∈ ns ↔ S k = true) → ns.length = n → Q (.ref p) s') :
    wpAny (model prog w) A (call (.builtin "sorted") [.ref a]) Q E s := by
  obtain ⟨o, es, ep, t, ho, hex, hd, g, nd, hm, hb, hf, hn, hr, hl⟩ := R
  refine Calls.call_function_entry PyProof.Rows.kind_sorted PyProof.Rows.plain_sorted PyProof.Rows.entry_sorted (PyProof.Rows.args_sorted1 _) ?_
  unfold Builtin.«sorted»
  refine wpAny_bind (m := checkCount "sorted" 1 1 _) (wpAny_pure ?_)
  refine wpAny_bind (collect_set (A := A.in1) hh ⟨o, ho, hex.1, hd⟩ hf hb hr hl fun s1 vs k1 hz g1 o1 pm => ?_)
  have hvl : vs.length = n := by rw [pm.length_eq, List.length_map, Array.length_toList]; exact hn
  have hn16 : n ≤ sizeLine := by rw [sizeLine_eq]; unfold scanBound at hn0; omega
  have hI : StrsAre vs (vs.map strOf) := strs_ofS vs fun v hv => by
    obtain ⟨e, he, q⟩ := List.mem_map.mp (pm.mem_iff.mp hv)
    obtain ⟨k, tk, h1, _⟩ := g e he
    exact ⟨k, tk, by rw [← q]; exact h1⟩
  have pk : (vs.map strOf).Perm (es.toList.map keyS) := by
    have q := pm.map strOf
    rw [List.map_map] at q
    refine q.trans (List.Perm.of_eq (List.map_congr_left fun e he => ?_))
    obtain ⟨k, tk, h1, _⟩ := g e he
    show strOf e.2 = keyS e
    unfold keyS
    rw [h1]
    rfl
  refine wpAny_bind (wpAny_newList ?_ (by rw [hvl]; exact hn16))
  have hoL : (s1.heap.push (seqObj "list" vs.toArray 0)).get? s1.heap.objs.size = some (seqObj "list" vs.toArray 0) := Heap.get?_push_size _ rfl
  refine wpAny_bind (wpAny_holding (wpAny_call_entry PyProof.Rows.slot_list_sort ⟨_, hoL, rfl⟩ PyProof.Rows.entry_list_sort
    (list_sort_treeKAny strKind_oneLt (s := { s1 with heap := s1.heap.push (seqObj "list" vs.toArray 0) }) hoL hI.keysOf (fun v₁ v₂ rest e => keyKind_strs (by rw [← e]; exact hI)) (by rw [hvl]; exact hn16) fun st' hp hs => ⟨_, rfl, ?_⟩) (PyProof.Rows.args_list_sort _)))
  obtain ⟨ys, a1, a2, a3⟩ := sorted_out_str hI hp hs
  obtain ⟨c, hc⟩ := PyProof.Rows.sortedHeap_at (vs := vs) (out := (arrOf st').map (·.2)) hoL
  have pn : ys.Perm (es.toList.map keyS) := a2.trans pk
  refine wpAny_pure ⟨_, rfl, hQ _ s1.heap.objs.size _ c ys (fun b u e => ?_) g1 o1 hz hc a1 a3 (pn.nodup_iff.mpr nd) (fun k => by rw [pn.mem_iff, ← hm k]) ?_⟩
  · have q := k1 b u e
    have hlt := Heap.lt_size q
    show (sortedHeap (s1.heap.push (seqObj "list" vs.toArray 0)) s1.heap.objs.size vs _).get? b = some u
    rw [PyProof.Rows.sortedHeap_old (Nat.ne_of_lt hlt) (by rw [size_push']; exact Nat.lt_succ_of_lt hlt)]
    exact Heap.get?_push_of_some _ q
  · rw [pn.length_eq, List.length_map, Array.length_toList]; exact hn
end
end DLSet

set_option Elab.async false
set_option linter.all false
set_option maxRecDepth 100000
/-! DLSet2: len(set(texts)), sorted(set(texts)) as readings. -/
namespace DL
open PySem L2 PySem.Spec PyProof.Rows DLSet
/-- a list of texts -/
@[simp] def strsD : List D → Option (List (List Nat))
  | [] => some []
  | .str b :: ds => (strsD ds).map (b :: ·)
  | _ => none
def mkS (t : List Nat) : Str := ⟨t.toArray⟩
theorem mkS_cps (s : Str) : mkS s.cps.toList = s := by cases s; rfl
theorem cps_mkS (t : List Nat) : (mkS t).cps.toList = t := rfl
theorem strsD_reps {K : PySem.W.Frag} {M : Mm} {H : Hp} : ∀ {ds : List D} {vs : List V} {bs : List (List Nat)}, Reps K M H ds vs → strsD ds = some bs → vs = (bs.map mkS).map V.str ∧ ∀ b ∈ bs, b.length ≤ sizeLine
  | [], vs, bs, r, h => by obtain rfl := Reps.nil_inv r; cases h; exact ⟨rfl, fun _ h => by cases h⟩
  | .str b :: ds, vs, bs, r, h => by
    obtain ⟨v, vr, rfl, r1, r2⟩ := Reps.inv r
    obtain ⟨rfl, hb⟩ := rep_str.mp r1
    unfold strsD at h
    cases e : strsD ds with
    | none => rw [e] at h; cases h
    | some cs =>
      rw [e] at h
      cases h
      obtain ⟨h1, h2⟩ := strsD_reps r2 e
      refine ⟨by rw [h1]; rfl, fun c hc => ?_⟩
      rcases List.mem_cons.mp hc with z | z
      · exact z ▸ hb
      · exact h2 c z
  | .non :: ds, vs, bs, r, h => by unfold strsD at h; cases h
  | .bl _ :: ds, vs, bs, r, h => by unfold strsD at h; cases h
  | .int _ :: ds, vs, bs, r, h => by unfold strsD at h; cases h
  | .tup _ :: ds, vs, bs, r, h => by unfold strsD at h; cases h
  | .lst _ :: ds, vs, bs, r, h => by unfold strsD at h; cases h
  | .ref _ :: ds, vs, bs, r, h => by unfold strsD at h; cases h
  | .ty _ :: ds, vs, bs, r, h => by unfold strsD at h; cases h
theorem strsD_map (bs : List (List Nat)) : strsD (bs.map D.str) = some bs := by
  induction bs with
  | nil => rfl
  | cons b bs ih => unfold List.map strsD; rw [ih]; rfl
theorem strs_reps {K : PySem.W.Frag} {M : Mm} {H : Hp} {bs : List (List Nat)} (h : ∀ b ∈ bs, b.length ≤ sizeLine) : Reps K M H (bs.map D.str) ((bs.map mkS).map V.str) := by
  induction bs with
  | nil => exact .nil
  | cons b bs ih => exact .cons (rep_str.mpr ⟨rfl, h b List.mem_cons_self⟩) (ih fun c hc => h c (List.mem_cons_of_mem _ hc))
/-- the members of a list, each once -/
def Once (ts us : List (List Nat)) : Prop := us.Nodup ∧ ∀ x, x ∈ us ↔ x ∈ ts
theorem Once.len {ts us vs : List (List Nat)} (a : Once ts us) (b : Once ts vs) : us.length = vs.length :=
  ((List.perm_ext_iff_of_nodup a.1 b.1).mpr fun x => (a.2 x).trans (b.2 x).symm).length_eq
/-- ascending, each once -/
def Asc (us : List (List Nat)) : Prop := us.Pairwise (· < ·)
theorem pairwise_of_sortedS : ∀ (l : List Str), sortedS l = true → l.Pairwise (fun a b => ¬ b.cps.toList < a.cps.toList)
  | [], _ => List.Pairwise.nil
  | [x], _ => List.pairwise_singleton ..
  | x :: y :: r, h => by
    have h : (!ltCps y.cps.toList x.cps.toList && risingS y r) = true := h
    rw [Bool.and_eq_true, Bool.not_eq_true', ltCps_eq, decide_eq_false_iff_not] at h
    have ih := pairwise_of_sortedS (y :: r) h.2
    refine List.pairwise_cons.mpr ⟨fun z hz => ?_, ih⟩
    rcases List.mem_cons.mp hz with e | e
    · exact e ▸ h.1
    · have h2 := List.rel_of_pairwise_cons ih e
      exact fun z => (List.not_lt.mpr (List.le_trans (List.not_lt.mp h.1) (List.not_lt.mp h2))) z
theorem asc_of {us : List Str} (h : sortedS us = true) (n : us.Nodup) : Asc (us.map fun s => s.cps.toList) := by
  refine List.pairwise_map.mpr ?_
  refine ((pairwise_of_sortedS us h).and n).imp fun {a b} ⟨h1, h2⟩ => ?_
  have h3 : a.cps.toList ≠ b.cps.toList := fun e => h2 (by rw [← mkS_cps a, e, mkS_cps])
  exact Classical.byContradiction fun z => h3 (List.le_antisymm (List.not_lt.mp h1) (List.not_lt.mp z))
@[simp] def tdLenSet (ta : TD) : TD := fun σ M Q => ta σ M fun x M1 => ∃ xs ts, vw M1 x = .lst xs ∧ strsD xs = some ts ∧ ts.length + 1 < scanBound ∧ ∀ us, Once ts us → Q (.int us.length) M1
@[simp] def tdSortSet (ta : TD) : TD := fun σ M Q => ta σ M fun x M1 => ∃ xs ts, vw M1 x = .lst xs ∧ strsD xs = some ts ∧ ts.length + 1 < scanBound ∧ ∀ us, Once ts us → Asc us → Q (.lst (us.map .str)) M1
section
variable {X : Cx} {J : Jc} {a : Expr} {ta : TD} {p p2 q pos : Pos}
theorem once_met {ts : List (List Nat)} : Once ts ((metS (ts.map mkS)).map fun s => s.cps.toList) := by
  refine ⟨?_, fun x => ?_⟩
  · refine List.pairwise_map.mpr ((metS_nodup _).imp fun {a b} h e => h ?_)
    rw [← mkS_cps a, e, mkS_cps]
  · rw [List.mem_map]
    constructor
    · rintro ⟨s, h1, h2⟩
      rw [metS_mem, List.mem_map] at h1
      obtain ⟨t, h3, h4⟩ := h1
      rw [← h2, ← h4]
      exact h3
    · intro h
      exact ⟨mkS x, (metS_mem _ _).mpr (List.mem_map.mpr ⟨x, h, rfl⟩), rfl⟩
theorem Once.le {ts us : List (List Nat)} (a : Once ts us) : us.length ≤ ts.length := by
  rw [a.len once_met, List.length_map]
  have := metS_len (ts.map mkS)
  rwa [List.length_map] at this
theorem de_lenSet (hc : X.calm = true) (hg : Gl X "len") (hm : X.mg "len" = none) (hg2 : Gl X "set") (hm2 : X.mg "set" = none) (ha : DE J X a ta)
    (na : starEach [a] X.env = (false, eval a X.env) :: starEach [] X.env := by rfl) : DE J X (.Call (.Name "len" p) [.Call (.Name "set" p2) [a] [] q] [] pos) (tdLenSet ta) := by
  refine ⟨fun pins s σ H Q I ⟨σd, M, Φ, rs, rm, h, k⟩ => ?_⟩
  refine Call_ (ld_blt I hg hm boot_len ?_)
  refine PyProof.Rows.callWith_builtin1 (PyProof.Rows.args_cons ?_ rfl) rfl rfl
  refine Call_ (ld_blt I hg2 hm2 boot_set ?_)
  refine PyProof.Rows.callWith_type1 (PyProof.Rows.args_cons (thn (ha.run pins s σ H _ I ⟨σd, M, _, rs, rm, h, fun d M1 v H1 e1 rm1 r1 q1 => (⟨d, M1, e1, rm1, r1, q1⟩ : ∃ d M1, Ev M H M1 H1 ∧ RepM X.K M1 H1 ∧ Rep X.K M1 H1 d v ∧ ∃ xs ts, vw M1 d = .lst xs ∧ strsD xs = some ts ∧ ts.length + 1 < scanBound ∧ ∀ us, Once ts us → Φ (.int us.length) M1)⟩) fun v s1 ⟨x, H1, I1, r1, q1⟩ => PyProof.Rows.args_nil ?_) na) na rfl
  obtain ⟨d, M1, e1, rm1, rd, xs, ts, hv, hx, hb, q1⟩ := q1
  have rv := rd.vr rm1
  rw [hv] at rv
  obtain ⟨l, vs, rfl, hq, rx⟩ := vr_lst.mp rv
  obtain ⟨rfl, hl⟩ := strsD_reps rx hx
  cases r1
  obtain ⟨its, r, pl, hz⟩ := I1.list hq
  refine call_set_tx (I1.ok.hd hc) pl.isList (by simpa using strsAre_of r) (by rw [List.length_map]; exact hb) fun h' tk hS hk => ?_
  refine PyProof.Rows.args_nil ?_
  obtain ⟨o, es, ep, t, ho, hex, hd, _, _, _, _, hf, hn, _⟩ := hS
  have I2 : Inv X pins σ H1 { s1 with heap := h', toks := tk } := I1.kept fun b o e => hk b o (Heap.lt_size e) e
  have hz : es.size = ((metS (ts.map mkS)).map fun s => s.cps.toList).length := by rw [hn, List.length_map]
  have hle : es.size ≤ ts.length := by rw [hz]; exact Once.le once_met
  refine call_len_set ho hex hd hf (by unfold scanBound at hb; omega) ⟨.int es.size, H1, I2.tok _, ⟨_, rfl⟩, ?_⟩
  rw [hz]
  exact k _ M1 _ H1 e1 rm1 (rep_int.mpr rfl) (q1 _ once_met)
theorem boot_sorted : bootBuiltins "sorted" = some (.builtin "sorted") := by decide +kernel
theorem de_sortSet (hc : X.calm = true) (hg : Gl X "sorted") (hm : X.mg "sorted" = none) (hg2 : Gl X "set") (hm2 : X.mg "set" = none) (ha : DE J X a ta)
    (na : starEach [a] X.env = (false, eval a X.env) :: starEach [] X.env := by rfl) : DE J X (.Call (.Name "sorted" p) [.Call (.Name "set" p2) [a] [] q] [] pos) (tdSortSet ta) := by
  refine ⟨fun pins s σ H Q I ⟨σd, M, Φ, rs, rm, h, k⟩ => ?_⟩
  refine Call_ (ld_blt I hg hm boot_sorted ?_)
  refine PyProof.Rows.callWith_builtin1 (PyProof.Rows.args_cons ?_ rfl) rfl rfl
  refine Call_ (ld_blt I hg2 hm2 boot_set ?_)
  refine PyProof.Rows.callWith_type1 (PyProof.Rows.args_cons (thn (ha.run pins s σ H _ I ⟨σd, M, _, rs, rm, h, fun d M1 v H1 e1 rm1 r1 q1 => (⟨d, M1, e1, rm1, r1, q1⟩ : ∃ d M1, Ev M H M1 H1 ∧ RepM X.K M1 H1 ∧ Rep X.K M1 H1 d v ∧ ∃ xs ts, vw M1 d = .lst xs ∧ strsD xs = some ts ∧ ts.length + 1 < scanBound ∧ ∀ us, Once ts us → Asc us → Φ (.lst (us.map .str)) M1)⟩) fun v s1 ⟨x, H1, I1, r1, q1⟩ => PyProof.Rows.args_nil ?_) na) na rfl
  obtain ⟨d, M1, e1, rm1, rd, xs, ts, hv, hx, hb, q1⟩ := q1
  have rv := rd.vr rm1
  rw [hv] at rv
  obtain ⟨l, vs, rfl, hq, rx⟩ := vr_lst.mp rv
  obtain ⟨rfl, hl⟩ := strsD_reps rx hx
  cases r1
  obtain ⟨its, r, pl, hz⟩ := I1.list hq
  refine call_set_tx (I1.ok.hd hc) pl.isList (by simpa using strsAre_of r) (by rw [List.length_map]; exact hb) fun h' tk hS hk => ?_
  refine PyProof.Rows.args_nil ?_
  have I2 : Inv X pins σ H1 { s1 with heap := h', toks := tk } := I1.kept fun b o e => hk b o (Heap.lt_size e) e
  have hml := metS_len (ts.map mkS)
  rw [List.length_map] at hml
  refine sorted_tx hS (I1.ok.hd hc) (by omega) fun s' p out c ns k2 g o hp hg hi hs hnd hm hl2 => ?_
  have hon : Once ts (ns.map fun s => s.cps.toList) := by
    refine ⟨List.pairwise_map.mpr (hnd.imp fun {a b} h e => h (by rw [← mkS_cps a, e, mkS_cps])), fun x => ?_⟩
    rw [← (once_met (ts := ts)).2 x, List.mem_map, List.mem_map]
    constructor
    · rintro ⟨s, h1, h2⟩
      exact ⟨s, of_decide_eq_true ((hm s).mp h1), h2⟩
    · rintro ⟨s, h1, h2⟩
      exact ⟨s, (hm s).mpr (decide_eq_true h1), h2⟩
  have hmk : ∀ l : List Str, (l.map fun s => s.cps.toList).map mkS = l := fun l => by
    rw [List.map_map]
    exact (List.map_congr_left fun s _ => mkS_cps s).trans (List.map_id _)
  have hlen : (ns.map V.str).length ≤ sizeLine := by rw [List.length_map, hl2, sizeLine_eq]; unfold scanBound at hb; omega
  have hn : H1 p = none := I2.hok.fresh hp
  have k1 : ∀ b o, s1.heap.get? b = some o → h'.get? b = some o := fun b o e => hk b o (Heap.lt_size e) e
  have k3 : ∀ b o, s1.heap.get? b = some o → s'.heap.get? b = some o := fun b o e => k2 b o (k1 b o e)
  have hp3 : s1.heap.objs.size ≤ p := by
    obtain ⟨o2, _, _, _, ho2, _⟩ := hS
    exact Nat.le_trans (Nat.le_of_lt (Heap.lt_size ho2)) hp
  have I3 : Inv X pins σ (upd H1 p (.lst (ns.map V.str))) { s1 with heap := s'.heap, gens := s'.gens, drawn := s'.drawn, toks := s'.toks } :=
    I1.call (ch := []) (Un.laid k3 hp3 hn) (I1.hok.laid k3 hp3 ⟨hlen, out.toList, c, vals_of_strs hi, hg⟩) (by rw [g]; exact I1.bare) (fun _ z => nomatch z)
  have e : s' = { s1 with heap := s'.heap, gens := s'.gens, drawn := s'.drawn, toks := s'.toks } := by
    cases s'
    cases s1
    cases o
    rfl
  rw [e]
  refine ⟨.ref p, _, I3, rfl, ?_⟩
  refine k _ M1 _ _ (e1.trans (.new hn)) (rm1.new hn) (.lstNew rm1 hn ?_) (q1 _ hon (asc_of hs hnd))
  have := strs_reps (K := X.K) (M := M1) (H := H1) (bs := ns.map fun s => s.cps.toList) fun b hb' => hl b ((hon.2 b).mp hb')
  rw [hmk] at this
  exact this
end
end DL

set_option Elab.async false
set_option linter.all false
set_option maxRecDepth 100000
/-! DL14: texts: split, find. -/
namespace DL
open PySem L2
def unS (s : Str) : List Nat := s.cps.toList
theorem strs_un {K : PySem.W.Frag} {M : Mm} {H : Hp} {ys : List Str} (h : ∀ s ∈ ys, s.length ≤ sizeLine) : Reps K M H (ys.map fun s => D.str (unS s)) (ys.map V.str) := by
  induction ys with
  | nil => exact .nil
  | cons y ys ih => exact .cons (rep_str.mpr ⟨by cases y; rfl, by have := h y List.mem_cons_self; simpa [unS, Str.length] using this⟩) (ih fun s hs => h s (List.mem_cons_of_mem _ hs))
/-- the first place of S in a text -/
def findL (S : List Nat) : Nat → List Nat → Int
  | _, [] => -1
  | i, c :: r => if TL.pre S (c :: r) = true then (i : Int) else findL S (i + 1) r
theorem findL_run (S L : List Nat) : ∀ (m a : Nat), a + m ≤ L.length → (∀ k, a ≤ k → k < a + m → TL.pre S (L.drop k) = false) → findL S a (L.drop a) = findL S (a + m) (L.drop (a + m))
  | 0, a, _, _ => rfl
  | m + 1, a, h, hn => by
    obtain ⟨c, e⟩ := TL.getElem_drop_cons (L := L) (a := a) (by omega)
    have h0 := hn a (Nat.le_refl _) (by omega)
    have ih := findL_run S L m (a + 1) (by omega) (fun k h1 h2 => hn k (by omega) (by omega))
    rw [show a + (m + 1) = a + 1 + m by omega, ← ih, e]
    rw [e] at h0
    show (if TL.pre S (c :: L.drop (a + 1)) = true then _ else _) = _
    rw [if_neg (by rw [h0]; exact Bool.false_ne_true)]
open PySem.StrLaws in
theorem find_L (x y : Str) (hy : TL.tl y ≠ []) : Txt.find x y = findL (TL.tl y) 0 (TL.tl x) := by
  have hx := TL.len_tl x
  unfold Txt.find
  rcases occ_head x y 1 (Nat.le_refl _) with ⟨e, hn⟩ | ⟨i, r, e, hi, hn⟩
  · rw [e]
    have run := findL_run (TL.tl y) (TL.tl x) (TL.tl x).length 0 (by omega) (fun k _ _ => TL.no_at hy (hn k))
    rw [List.drop_zero, Nat.zero_add, List.drop_length] at run
    rw [run]
    rfl
  · rw [e]
    have hp := (TL.at_iff hy i).mp hi
    have hlt : i < (TL.tl x).length := by
      rcases Nat.lt_or_ge i (TL.tl x).length with h | h
      · exact h
      · rw [List.drop_eq_nil_of_le h, TL.pre_nil hy] at hp
        cases hp
    have run := findL_run (TL.tl y) (TL.tl x) i 0 (by omega) (fun k _ k2 => TL.no_at hy (hn k (by omega)))
    rw [List.drop_zero, Nat.zero_add] at run
    rw [run]
    obtain ⟨c, e⟩ := TL.getElem_drop_cons hlt
    rw [e] at hp ⊢
    show _ = (if TL.pre (TL.tl y) (c :: _) = true then (i : Int) else _)
    rw [if_pos hp]
theorem strs_mapS (l : List (List Nat)) : strsD (l.map D.str) = some l := by
  induction l with
  | nil => rfl
  | cons a l ih => simp [strsD, ih]
theorem join_un (a : List Nat) (ts : List (List Nat)) : unS (Txt.join (mkS a) (ts.map mkS)) = TL.joinL a ts := by
  show TL.tl _ = _
  rw [TL.join_eq, TL.tl_join, List.map_map]
  congr 1
  · exact (List.map_congr_left fun _ _ => rfl).trans (List.map_id _)
theorem joinL_len (S : List Nat) {B : Nat} : ∀ l : List (List Nat), (∀ w ∈ l, w.length ≤ B) → (TL.joinL S l).length ≤ (B + S.length) * l.length
  | [], _ => by simp [TL.joinL]
  | [a], h => by have := h a List.mem_cons_self; simp [TL.joinL]; omega
  | a :: c :: l, h => by
    have ha := h a List.mem_cons_self
    have hi := joinL_len S (c :: l) fun w hw => h w (List.mem_cons_of_mem _ hw)
    show (a ++ (S ++ TL.joinL S (c :: l))).length ≤ _
    rw [List.length_append, List.length_append, List.length_cons, Nat.mul_add]
    omega
theorem spl_len (S : List Nat) : ∀ (l : List Nat) (k : Nat) (acc : List Nat), ∀ p ∈ TL.spl S k acc l, p.length ≤ acc.length + l.length
  | [], k, acc, p, h => by
    rw [TL.spl_nil] at h
    obtain rfl := List.mem_singleton.mp h
    simp
  | c :: r, 0, acc, p, h => by
    cases hp : TL.pre S (c :: r) with
    | true =>
      rw [TL.spl_hit hp] at h
      rcases List.mem_cons.mp h with rfl | h
      · simp
      · have := spl_len S r _ _ p h
        simp at this ⊢
        omega
    | false =>
      rw [TL.spl_miss hp] at h
      have := spl_len S r _ _ p h
      simp at this ⊢
      omega
  | c :: r, k + 1, acc, p, h => by
    have := spl_len S r k acc p h
    rw [List.length_cons]
    omega
section
variable {X : Cx}
/-- x.split(sep) -/
@[simp] def dSplit : RMd := fun M x ds Q => match x, ds with
  | .str a, [.str b] => b ≠ [] ∧ (b.all fun c => decide (c < 256)) = true ∧ a.length + 2 ≤ sizeLine ∧ Q (.lst ((TL.spl b 0 [] a).map .str)) M
  | _, _ => False
theorem mt_dSplit : MtD X "str.split" dSplit := by
  intro pins s σ H x xs v us Q I rx rs h
  obtain ⟨M, d, ds, Φ, rm, r, rr, h, k⟩ := h
  unfold dSplit at h
  split at h
  · rename_i a b
    obtain ⟨hb, hk, hz, h⟩ := h
    obtain ⟨rfl, _⟩ := rep_str.mp r
    obtain ⟨yv, rfl, ry⟩ := rr.one_inv
    obtain ⟨rfl, _⟩ := rep_str.mp ry
    have es : (Txt.split (mkS a) (mkS b)).map unS = TL.spl b 0 [] a := TL.split_spl (mkS a) (mkS b) hb (TL.kind_ok (by simpa [mkS] using hk))
    have hl : ∀ s ∈ Txt.split (mkS a) (mkS b), s.length ≤ sizeLine := fun s hs => by
      have hm : unS s ∈ TL.spl b 0 [] a := by rw [← es]; exact List.mem_map_of_mem hs
      have := spl_len b a 0 [] _ hm
      have e2 : s.length = (unS s).length := TL.len_tl s
      rw [e2]
      simp at this
      omega
    rw [← es, List.map_map] at h
    refine mt_split pins s σ H _ _ v us Q I rx rs ⟨_, _, rfl, rfl, ?_, by simpa [Str.length] using hz, fun p hp => k _ _ _ _ (.new hp) (rm.new hp) (.lstNew rm hp (strs_un hl)) h⟩
    cases b with
    | nil => exact absurd rfl hb
    | cons c b => simp [Str.length]
  · exact h.elim
/-- x.find(y) -/
@[simp] def dFind : RMd := fun M x ds Q => match x, ds with
  | .str a, [.str b] => b ≠ [] ∧ Q (.int (findL b 0 a)) M
  | _, _ => False
theorem mt_dFind : MtD X "str.find" dFind := by
  intro pins s σ H x xs v us Q I rx rs h
  obtain ⟨M, d, ds, Φ, rm, r, rr, h, k⟩ := h
  unfold dFind at h
  split at h
  · rename_i a b
    obtain ⟨rfl, _⟩ := rep_str.mp r
    obtain ⟨yv, rfl, ry⟩ := rr.one_inv
    obtain ⟨rfl, _⟩ := rep_str.mp ry
    obtain ⟨hb, h⟩ := h
    rw [← show Txt.find (mkS a) (mkS b) = findL b 0 a from find_L (mkS a) (mkS b) hb] at h
    exact mt_find pins s σ H _ _ v us Q I rx rs ⟨_, _, rfl, rfl, k _ _ _ _ .refl rm (rep_int.mpr rfl) h⟩
  · exact h.elim
/-- sep.join(a list of texts) -/
@[simp] def dJoin : RMd := fun M x ds Q => match x, ds with
  | .str a, [y] => ∃ xs ts, (vw M y = .lst xs ∨ vw M y = .tup xs) ∧ strsD xs = some ts ∧ (∃ B : Nat, (∀ w ∈ ts, w.length ≤ B) ∧ (B + a.length) * ts.length ≤ 16777216) ∧ Q (.str (TL.joinL a ts)) M
  | _, _ => False
theorem mt_dJoin : MtD X "str.join" dJoin := by
  intro pins s σ H x xs v us Q I rx rs h
  obtain ⟨M, d, ds, Φ, rm, r, rr, h, k⟩ := h
  unfold dJoin at h
  split at h
  · rename_i a y
    obtain ⟨xs', ts, hv, hts, ⟨B, hB, hBl⟩, h⟩ := h
    have hz : (ts.map (·.length)).sum + ts.length * a.length ≤ 16777216 := by
      have : (ts.map (·.length)).sum ≤ B * ts.length := by
        clear hBl h hts hv
        induction ts with
        | nil => simp
        | cons t ts ih =>
          have h1 := hB t List.mem_cons_self
          have h2 := ih fun w hw => hB w (List.mem_cons_of_mem _ hw)
          rw [List.map_cons, List.sum_cons, List.length_cons, Nat.mul_add]
          omega
      rw [Nat.add_mul] at hBl
      rw [Nat.mul_comm ts.length a.length]
      omega
    have hl : (Txt.join (mkS a) (ts.map mkS)).length ≤ sizeLine := by
      have := joinL_len a ts hB
      have e2 : (Txt.join (mkS a) (ts.map mkS)).length = (unS (Txt.join (mkS a) (ts.map mkS))).length := TL.len_tl _
      rw [e2, join_un, sizeLine_eq]
      omega
    rw [← join_un] at h
    obtain ⟨rfl, _⟩ := rep_str.mp r
    obtain ⟨yv, rfl, ry⟩ := rr.one_inv
    have rv := ry.vr rm
    obtain ⟨p, rfl, hq⟩ : ∃ p, yv = .ref p ∧ (SqL X.K H p (List.map V.str (ts.map mkS)) ∨ SqT X.K H p (List.map V.str (ts.map mkS))) := by
      rcases hv with hv | hv
      · rw [hv] at rv
        obtain ⟨p, vs, rfl, hq, rx'⟩ := vr_lst.mp rv
        obtain ⟨rfl, _⟩ := strsD_reps rx' hts
        exact ⟨p, rfl, .inl hq⟩
      · rw [hv] at rv
        obtain ⟨p, vs, rfl, hq, rx'⟩ := rep_tup.mp (vr_tup rv)
        obtain ⟨rfl, _⟩ := strsD_reps rx' hts
        exact ⟨p, rfl, .inr hq.sq⟩
    refine mt_join pins s σ H _ _ v us Q I rx rs ⟨_, p, ts.map mkS, rfl, rfl, hq, ?_, k _ _ _ _ .refl rm (rep_str.mpr ⟨?_, ?_⟩) h⟩
    · rw [List.map_map, List.length_map]
      have e : (ts.map ((·.length) ∘ mkS)) = ts.map (·.length) := List.map_congr_left fun s _ => by simp [mkS, Str.length]
      rw [e]
      simpa [Str.length] using hz
    · show V.str (Txt.join (mkS a) (ts.map mkS)) = _
      generalize Txt.join (mkS a) (ts.map mkS) = z
      cases z
      rfl
    · simpa [unS, Str.length] using hl
  · exact h.elim
/-- str(an int, a text) -/
@[simp] def dStrC : C1d := fun M ds Q => match ds with
  | [.int i] => 0 ≤ i ∧ i < 2 ^ 63 ∧ Q (.str (TL.numL i.toNat))
  | [.str a] => Q (.str a)
  | _ => False
theorem call_dStr : CallD X (.type "str") dStrC := by
  intro pins s σ H xs us Q I rx h
  obtain ⟨M, ds, Φ, rm, ra, h, k⟩ := h
  unfold dStrC at h
  split at h
  · rename_i i
    obtain ⟨hi0, hi, h⟩ := h
    obtain ⟨v, rfl, r1⟩ := ra.one_inv
    obtain rfl := rep_int.mp r1
    have eu : unS (toString i) = TL.numL i.toNat := by
      have := TL.tl_num i.toNat
      rw [Int.toNat_of_nonneg hi0] at this
      exact this
    have hl : (unS (toString i)).length ≤ sizeLine := by
      rw [eu]
      have := TL.numL_len (n := i.toNat) (k := 20) (by decide) (by omega)
      rw [sizeLine_eq]
      omega
    rw [← eu] at h
    have hlog : i.natAbs.log2 < 1920 := by
      by_cases h0 : i.natAbs = 0
      · rw [h0]; decide
      · exact Nat.lt_trans ((Nat.log2_lt h0).mpr (show i.natAbs < 2 ^ 63 by omega)) (by decide)
    refine call_str_int pins s σ H _ us Q I rx ⟨i, rfl, hlog, k _ _ H .refl rm (rep_str.mpr ⟨?_, hl⟩) h⟩
    show V.str (toString i) = _
    generalize (toString i : Str) = z
    cases z
    rfl
  · rename_i a
    obtain ⟨v, rfl, r1⟩ := ra.one_inv
    obtain ⟨rfl, hz⟩ := rep_str.mp r1
    exact SkE.call_str_str pins s σ H _ us Q I rx ⟨_, rfl, k _ _ H .refl rm (rep_str.mpr ⟨rfl, hz⟩) h⟩
  · exact h.elim
/-- int(an int, a bool, a text of figures) -/
@[simp] def dIntS : C1d := fun M ds Q => match ds with
  | [.int i] => Q (.int i)
  | [.bl b] => Q (.int (if b then 1 else 0))
  | [.str a] => ∃ n, PySem.intText? (mkS a) = some n ∧ a.length ≤ 640 ∧ Q (.int n)
  | _ => False
theorem call_dIntS : CallD X (.type "int") dIntS := by
  intro pins s σ H xs us Q I rx h
  obtain ⟨M, ds, Φ, rm, ra, h, k⟩ := h
  unfold dIntS at h
  split at h
  · exact call_dInt pins s σ H xs us Q I rx ⟨M, _, Φ, rm, ra, h, k⟩
  · exact call_dInt pins s σ H xs us Q I rx ⟨M, _, Φ, rm, ra, h, k⟩
  · rename_i a
    obtain ⟨n, hn, hl, h⟩ := h
    obtain ⟨v, rfl, r1⟩ := ra.one_inv
    obtain ⟨rfl, _⟩ := rep_str.mp r1
    exact call_int_str pins s σ H _ us Q I rx ⟨_, n, rfl, hn, by simpa [Str.length] using hl, k _ _ H .refl rm (rep_int.mpr rfl) h⟩
  · exact h.elim
end
end DL

set_option Elab.async false
set_option linter.all false
set_option maxRecDepth 100000
/-! DLR: plain lemmas about readings: loops, comprehensions, kinds, comparisons. -/
namespace DL
open PySem L2
/-! ### loops by an invariant -/
theorem forD_inv {g : Tgt} {tb : TSd} {stay : Mm → Prop} {Δ : Ed} (I : List D → Sg → Mm → Prop) (h0 : ∀ σ M, I [] σ M → stay M ∧ Δ.nx σ M)
    (h1 : ∀ d ds σ M, I (d :: ds) σ M → stay M ∧ ∃ σ', setT g d σ = some σ' ∧ ∀ k : Sg → Mm → Prop, (∀ σ2 M2, I ds σ2 M2 → k σ2 M2) → tb ⟨k, Δ.rt, Δ.nx, k⟩ σ' M) :
    ∀ ds σ M, I ds σ M → forD g tb stay ds Δ σ M
  | [], σ, M, h => h0 σ M h
  | d :: ds, σ, M, h => by
    obtain ⟨s, σ', e, q⟩ := h1 d ds σ M h
    exact ⟨s, σ', e, q _ fun σ2 M2 h2 => forD_inv I h0 h1 ds σ2 M2 h2⟩
theorem whN_inv {c : TTd} {tb : TSd} {Δ : Ed} (I : Nat → Sg → Mm → Prop)
    (h1 : ∀ n σ M, I n σ M → ∀ k : Bool → Mm → Prop, (∀ M2, (∀ κ : Sg → Mm → Prop, (∀ m, m < n → ∀ σ3 M3, I m σ3 M3 → κ σ3 M3) → tb ⟨κ, Δ.rt, Δ.nx, κ⟩ σ M2) → k true M2) → (∀ M2, Δ.nx σ M2 → k false M2) → c σ M k) :
    ∀ n σ M, I n σ M → ∀ m, n < m → whN c tb m Δ σ M := by
  intro n
  induction n using Nat.strongRecOn with
  | ind n ih =>
    intro σ M h m hm
    cases m with
    | zero => omega
    | succ m =>
      refine h1 n σ M h _ (fun M2 q => ?_) (fun M2 q => ?_)
      · rw [if_pos rfl]
        exact q (whN c tb m Δ) fun j hj σ3 M3 h3 => ih j hj σ3 M3 h3 m (by omega)
      · rw [if_neg Bool.false_ne_true]
        exact q
/-- a statement, then the rest: what holds between -/
theorem seq_cut {t u : TSd} {Δ : Ed} {σ : Sg} {M : Mm} (K : Sg → Mm → Prop) (h2 : ∀ σ M, K σ M → u Δ σ M) (h1 : ∀ k : Sg → Mm → Prop, (∀ σ M, K σ M → k σ M) → t ⟨k, Δ.rt, Δ.bk, Δ.ct⟩ σ M) : tdSeq t u Δ σ M := h1 _ h2
/-- .. nothing stored, nothing changed -/
theorem seq_skip {t u : TSd} {Δ : Ed} {σ : Sg} {M : Mm} (h2 : u Δ σ M) (h1 : ∀ k : Sg → Mm → Prop, k σ M → t ⟨k, Δ.rt, Δ.bk, Δ.ct⟩ σ M) : tdSeq t u Δ σ M := h1 _ h2
/-- .. it never comes to the rest -/
theorem seq_stop {t u : TSd} {Δ : Ed} {σ : Sg} {M : Mm} (h1 : ∀ k : Sg → Mm → Prop, t ⟨k, Δ.rt, Δ.bk, Δ.ct⟩ σ M) : tdSeq t u Δ σ M := h1 _
/-- .. with these slots, these objects -/
theorem seq_to {t u : TSd} {Δ : Ed} {σ : Sg} {M : Mm} (σ' : Sg) (M' : Mm) (h2 : u Δ σ' M') (h1 : ∀ k : Sg → Mm → Prop, k σ' M' → t ⟨k, Δ.rt, Δ.bk, Δ.ct⟩ σ M) : tdSeq t u Δ σ M := h1 _ h2
/-- an if by its test -/
theorem if_yes {c : TTd} {t u : TSd} {Δ : Ed} {σ : Sg} {M : Mm} (M1 : Mm) (hc : ∀ K : Bool → Mm → Prop, K true M1 → c σ M K) (ht : t Δ σ M1) : tdIfS c t u Δ σ M := hc _ (by rw [if_pos rfl]; exact ht)
theorem if_no {c : TTd} {t u : TSd} {Δ : Ed} {σ : Sg} {M : Mm} (M1 : Mm) (hc : ∀ K : Bool → Mm → Prop, K false M1 → c σ M K) (ht : u Δ σ M1) : tdIfS c t u Δ σ M := hc _ (by rw [if_neg Bool.false_ne_true]; exact ht)
theorem if_cut {c : TTd} {t u : TSd} {Δ : Ed} {σ : Sg} {M : Mm} (P R : Mm → Prop) (hc : ∀ K : Bool → Mm → Prop, (∀ M1, P M1 → K true M1) → (∀ M1, R M1 → K false M1) → c σ M K) (ht : ∀ M1, P M1 → t Δ σ M1) (hu : ∀ M1, R M1 → u Δ σ M1) : tdIfS c t u Δ σ M :=
  hc _ (fun M1 h => by rw [if_pos rfl]; exact ht M1 h) fun M1 h => by rw [if_neg Bool.false_ne_true]; exact hu M1 h
/-! ### comprehensions -/
/-- nothing changes while it runs -/
theorem lcD_of {g : Tgt} {tt : TTd} {te : TD} {stay : Mm → Prop} {σw : Sg} {M : Mm} (b : D → Bool) (e : D → D) : ∀ (ds acc : List D) (Φ : List D → Mm → Prop), stay M →
    (∀ d ∈ ds, ∃ σ', setT g d σw = some σ' ∧ (∀ K : Bool → Mm → Prop, K (b d) M → tt σ' M K) ∧ (b d = true → ∀ K : D → Mm → Prop, K (e d) M → te σ' M K)) → acc.length + ds.length ≤ sizeLine → Φ (acc ++ (ds.filter b).map e) M → lcD g tt te stay σw ds acc M Φ
  | [], acc, Φ, s, _, _, h => by
    unfold lcD
    exact ⟨s, by simpa using h⟩
  | d :: ds, acc, Φ, s, hd, hl, h => by
    unfold lcD
    rw [List.length_cons] at hl
    obtain ⟨σ', e1, h2, h3⟩ := hd d List.mem_cons_self
    refine ⟨s, σ', e1, h2 _ ?_⟩
    cases hb : b d with
    | true =>
      rw [if_pos rfl]
      refine h3 hb _ ⟨by omega, lcD_of b e ds _ Φ s (fun d' hd' => hd d' (List.mem_cons_of_mem _ hd')) (by rw [List.length_append, List.length_singleton]; omega) ?_⟩
      rw [List.filter_cons_of_pos hb, List.map_cons] at h
      rw [List.append_assoc]
      exact h
    | false =>
      rw [if_neg Bool.false_ne_true]
      refine lcD_of b e ds _ Φ s (fun d' hd' => hd d' (List.mem_cons_of_mem _ hd')) (by omega) ?_
      rw [List.filter_cons_of_neg (by rw [hb]; exact Bool.false_ne_true)] at h
      exact h
/-- each item gives one, and the mutable objects may change -/
theorem lcD_inv {g : Tgt} {te : TD} {stay : Mm → Prop} {σw : Sg} (I : List D → List D → Mm → Prop) :
    ∀ (ds acc : List D) (M : Mm) (Φ : List D → Mm → Prop), I ds acc M → (∀ acc M, I [] acc M → stay M ∧ Φ acc M) →
    (∀ d ds acc M, I (d :: ds) acc M → stay M ∧ acc.length < sizeLine ∧ ∃ σ', setT g d σw = some σ' ∧ ∀ K : D → Mm → Prop, (∀ y M2, I ds (acc ++ [y]) M2 → K y M2) → te σ' M K) → lcD g tdYes te stay σw ds acc M Φ
  | [], acc, M, Φ, h, h0, h1 => h0 acc M h
  | d :: ds, acc, M, Φ, h, h0, h1 => by
    obtain ⟨s, hl, σ', e, q⟩ := h1 d ds acc M h
    refine ⟨s, σ', e, ?_⟩
    simp only [tdYes, if_true]
    exact q _ fun y M2 h2 => ⟨hl, lcD_inv I ds _ M2 Φ h2 h0 h1⟩
/-! ### kinds -/
/-- isinstance of data that are no objects -/
def isT : String → D → Bool
  | "NoneType", .non => true
  | "bool", .bl _ => true
  | "int", .bl _ => true
  | "int", .int _ => true
  | "str", .str _ => true
  | "tuple", .tup _ => true
  | "list", .lst _ => true
  | _, _ => false
@[simp] theorem kit_NoneType_int : kitB "NoneType" "int" = some false := by decide +kernel
@[simp] theorem kit_NoneType_str : kitB "NoneType" "str" = some false := by decide +kernel
@[simp] theorem kit_NoneType_tuple : kitB "NoneType" "tuple" = some false := by decide +kernel
@[simp] theorem kit_NoneType_bool : kitB "NoneType" "bool" = some false := by decide +kernel
@[simp] theorem kit_NoneType_list : kitB "NoneType" "list" = some false := by decide +kernel
@[simp] theorem kit_NoneType_dict : kitB "NoneType" "dict" = some false := by decide +kernel
@[simp] theorem kit_bool_int : kitB "bool" "int" = some true := by decide +kernel
@[simp] theorem kit_bool_str : kitB "bool" "str" = some false := by decide +kernel
@[simp] theorem kit_bool_tuple : kitB "bool" "tuple" = some false := by decide +kernel
@[simp] theorem kit_bool_bool : kitB "bool" "bool" = some true := by decide +kernel
@[simp] theorem kit_bool_list : kitB "bool" "list" = some false := by decide +kernel
@[simp] theorem kit_bool_dict : kitB "bool" "dict" = some false := by decide +kernel
@[simp] theorem kit_int_int : kitB "int" "int" = some true := by decide +kernel
@[simp] theorem kit_int_str : kitB "int" "str" = some false := by decide +kernel
@[simp] theorem kit_int_tuple : kitB "int" "tuple" = some false := by decide +kernel
@[simp] theorem kit_int_bool : kitB "int" "bool" = some false := by decide +kernel
@[simp] theorem kit_int_list : kitB "int" "list" = some false := by decide +kernel
@[simp] theorem kit_int_dict : kitB "int" "dict" = some false := by decide +kernel
@[simp] theorem kit_str_int : kitB "str" "int" = some false := by decide +kernel
@[simp] theorem kit_str_str : kitB "str" "str" = some true := by decide +kernel
@[simp] theorem kit_str_tuple : kitB "str" "tuple" = some false := by decide +kernel
@[simp] theorem kit_str_bool : kitB "str" "bool" = some false := by decide +kernel
@[simp] theorem kit_str_list : kitB "str" "list" = some false := by decide +kernel
@[simp] theorem kit_str_dict : kitB "str" "dict" = some false := by decide +kernel
@[simp] theorem kit_tuple_int : kitB "tuple" "int" = some false := by decide +kernel
@[simp] theorem kit_tuple_str : kitB "tuple" "str" = some false := by decide +kernel
@[simp] theorem kit_tuple_tuple : kitB "tuple" "tuple" = some true := by decide +kernel
@[simp] theorem kit_tuple_bool : kitB "tuple" "bool" = some false := by decide +kernel
@[simp] theorem kit_tuple_list : kitB "tuple" "list" = some false := by decide +kernel
@[simp] theorem kit_tuple_dict : kitB "tuple" "dict" = some false := by decide +kernel
@[simp] theorem kit_list_int : kitB "list" "int" = some false := by decide +kernel
@[simp] theorem kit_list_str : kitB "list" "str" = some false := by decide +kernel
@[simp] theorem kit_list_tuple : kitB "list" "tuple" = some false := by decide +kernel
@[simp] theorem kit_list_bool : kitB "list" "bool" = some false := by decide +kernel
@[simp] theorem kit_list_list : kitB "list" "list" = some true := by decide +kernel
@[simp] theorem kit_list_dict : kitB "list" "dict" = some false := by decide +kernel
@[simp] theorem kit_dict_int : kitB "dict" "int" = some false := by decide +kernel
@[simp] theorem kit_dict_str : kitB "dict" "str" = some false := by decide +kernel
@[simp] theorem kit_dict_tuple : kitB "dict" "tuple" = some false := by decide +kernel
@[simp] theorem kit_dict_bool : kitB "dict" "bool" = some false := by decide +kernel
@[simp] theorem kit_dict_list : kitB "dict" "list" = some false := by decide +kernel
@[simp] theorem kit_dict_dict : kitB "dict" "dict" = some true := by decide +kernel
/-! ### comparisons -/
@[simp] theorem eqC_int {i j : Int} {n : Nat} : eqC (.int i) n (.int j) = some (i == j) := by cases n <;> rfl
@[simp] theorem eqC_bl {i j : Bool} {n : Nat} : eqC (.bl i) n (.bl j) = some (i == j) := by cases n <;> rfl
@[simp] theorem eqC_str {i j : List Nat} {n : Nat} : eqC (.str i) n (.str j) = some (i == j) := by cases n <;> rfl
@[simp] theorem eqC_tup0 {xs : List D} {n : Nat} : eqC (.tup xs) (n + 1) (.tup []) = some xs.isEmpty := by
  cases xs <;> simp [eqC, eqCs]
@[simp] theorem eqC_lst0 {xs : List D} {n : Nat} : eqC (.lst xs) (n + 1) (.lst []) = some xs.isEmpty := by
  cases xs <;> simp [eqC, eqCs]
@[simp] theorem eqC_ts {a : List D} {b : List Nat} {n : Nat} : eqC (.tup a) n (.str b) = some false := by cases n <;> rfl
@[simp] theorem eqC_ls {a : List D} {b : List Nat} {n : Nat} : eqC (.lst a) n (.str b) = some false := by cases n <;> rfl
@[simp] theorem eqC_is {a : Int} {b : List Nat} {n : Nat} : eqC (.int a) n (.str b) = some false := by cases n <;> rfl
@[simp] theorem eqC_bs {a : Bool} {b : List Nat} {n : Nat} : eqC (.bl a) n (.str b) = some false := by cases n <;> rfl
@[simp] theorem eqC_ns {b : List Nat} {n : Nat} : eqC .non n (.str b) = some false := by cases n <;> rfl
@[simp] theorem inC_nil {x : D} : inC x [] = some false := rfl
@[simp] theorem inC_cons {x d : D} {ds : List D} : inC x (d :: ds) = (eqC d 64 x).bind fun b => (inC x ds).map fun c => b || c := rfl
theorem inC_strs {x : List Nat} : ∀ {ts : List (List Nat)}, inC (.str x) (ts.map D.str) = some (decide (x ∈ ts))
  | [] => rfl
  | t :: ts => by
    rw [List.map_cons, inC_cons, inC_strs (ts := ts)]
    simp only [eqC_str, Option.bind_some, Option.map_some]
    refine congrArg some ?_
    rw [Bool.eq_iff_iff, Bool.or_eq_true, beq_iff_eq, decide_eq_true_iff, decide_eq_true_iff, List.mem_cons]
    exact ⟨fun h => h.imp Eq.symm id, fun h => h.imp Eq.symm id⟩
@[simp] theorem ex_not {b : Bool} {P : Bool → Prop} : (∃ k, b = !k ∧ P k) ↔ P (!b) := by
  constructor
  · rintro ⟨k, rfl, h⟩
    rw [Bool.not_not]
    exact h
  · intro h
    exact ⟨!b, (Bool.not_not b).symm, h⟩
/-! ### items -/
theorem atI_nat {α : Type} (xs : List α) (n : Nat) : atI xs (n : Int) = xs[n]? := by
  unfold atI ixN
  rw [if_pos (by omega)]
  by_cases h : n < xs.length
  · rw [if_pos (by omega)]
    rfl
  · rw [if_neg (by omega), List.getElem?_eq_none (by omega)]
    rfl
@[simp] theorem atI_0 {α : Type} {a : α} {l : List α} : atI (a :: l) 0 = some a := atI_nat (a :: l) 0
@[simp] theorem atI_1 {α : Type} {a b : α} {l : List α} : atI (a :: b :: l) 1 = some b := atI_nat (a :: b :: l) 1
@[simp] theorem atI_2 {α : Type} {a b c : α} {l : List α} : atI (a :: b :: c :: l) 2 = some c := atI_nat (a :: b :: c :: l) 2
@[simp] theorem cutD_from {α : Type} (xs : List α) (n : Nat) : cutD xs (some (n : Int)) none = xs.drop n := by
  unfold cutD
  rw [HT.sIx_nat, HT.sIx_none]
  by_cases h : n ≤ xs.length
  · rw [Nat.min_eq_left h, List.take_of_length_le (by simp)]
  · rw [Nat.min_eq_right (by omega), List.drop_eq_nil_of_le (Nat.le_refl _), List.drop_eq_nil_of_le (by omega)]
    simp
theorem cutD_to {α : Type} (xs : List α) (n : Nat) : cutD xs none (some (n : Int)) = xs.take n := by
  unfold cutD
  rw [HT.sIx_nat, HT.sIx_none, List.drop_zero, Nat.sub_zero]
  by_cases h : n ≤ xs.length
  · rw [Nat.min_eq_left h]
  · rw [Nat.min_eq_right (by omega), List.take_of_length_le (Nat.le_refl _), List.take_of_length_le (by omega)]
@[simp] theorem cutD_1 {α : Type} (xs : List α) : cutD xs (some 1) none = xs.drop 1 := cutD_from xs 1
@[simp] theorem cutD_3 {α : Type} (xs : List α) : cutD xs (some 3) none = xs.drop 3 := cutD_from xs 3
/-- all of a list's items by a test -/
theorem blsD_map {α : Type} (f : α → Bool) (l : List α) : blsD (l.map fun x => D.bl (f x)) = some (l.map f) := by
  induction l with
  | nil => rfl
  | cons a l ih => simp only [List.map_cons, blsD, ih]; rfl
/-! ### plain data -/
mutual
/-- data without objects -/
def stdB : D → Bool
  | .tup ds => stdsB ds
  | .lst ds => stdsB ds
  | .ref _ => false
  | .ty _ => false
  | .non => true
  | .bl _ => true
  | .int _ => true
  | .str _ => true
def stdsB : List D → Bool
  | [] => true
  | d :: ds => stdB d && stdsB ds
end
theorem stdsB_iff : ∀ {ds : List D}, stdsB ds = true ↔ ∀ d ∈ ds, stdB d = true
  | [] => by simp [stdsB]
  | d :: ds => by simp [stdsB, stdsB_iff (ds := ds)]
theorem std_tup {ds : List D} : stdB (.tup ds) = true ↔ ∀ d ∈ ds, stdB d = true := by rw [stdB, stdsB_iff]
theorem std_lst {ds : List D} : stdB (.lst ds) = true ↔ ∀ d ∈ ds, stdB d = true := by rw [stdB, stdsB_iff]
end DL

set_option Elab.async false
set_option linter.all false
set_option maxRecDepth 100000
/-! DLH: the head: facts of the top by a hook, the law's end. -/
namespace DL
open PySem L2
abbrev FnP (K : PySem.W.Frag) (x : Str) (st : Stmt) (f : Addr) (fd : FuncData) : Prop := FunD K x x (defArgs st) (defBody st) (defScope st) [] [] f fd
theorem FnP.fun {K : PySem.W.Frag} {x : Str} {st : Stmt} {f : Addr} {fd : FuncData} (F : FnP K x st f fd) : Fun K x x st f fd := by
  obtain ⟨oc, od, dV, kV, doc, pm, an, cdv, ct, osl, rfl, lk, hcd, hD, hK⟩ := F.ex
  rcases hD with ⟨_, rfl⟩ | ⟨e, _⟩
  · exact ⟨⟨oc, od, kV, doc, pm, an, cdv, ct, osl, rfl, lk, hcd⟩, F.kp⟩
  · exact absurd rfl e
def defD (x : Str) (st : Stmt) : He.DefD := ⟨(x, none), x, x, defArgs st, defBody st, defScope st, [], []⟩
/-- facts by a test of the written part -/
abbrev Fx : Type := PySem.W.Frag → Bool
def obsX (fx : List Fx) (fn : List He.DefD) (K : PySem.W.Frag) : He.AlD := ((fx.all fun f => f K) && fn.all fun d => d.ok K, fn.map fun d => He.fnW K d.at_)
def SaysX (fx : List Fx) (fn : List He.DefD) (K : PySem.W.Frag) : Prop := obsX fx fn K = He.valD fn
def obsXG (n : Nat) (fx : List Fx) (fn : List He.DefD) (g : Addr → Option Obj) : He.AlD := obsX fx fn (He.frG g (He.asD g n))
def hookX (n : Nat) (fx : List Fx) (fn : List He.DefD) : PySem.W.Hook where
  α := He.AlD
  obs := fun s => obsXG n fx fn s.heap.get?
  val := fun _ => He.valD fn
  says := fun _ h => ∃ K : PySem.W.Frag, K.In h ∧ SaysX fx fn K
  of := fun _ _ e => ⟨_, He.frG_in, e⟩
  keeps := fun _ _ _ ⟨K, hK, c⟩ k => ⟨K, PySem.W.Frag.In.keeps hK k, c⟩
theorem obsXG_eq {n : Nat} {fx : List Fx} {fn : List He.DefD} {g : Addr → Option Obj} {s : Shared} (h : ∀ a, g a = s.heap.get? a) : obsXG n fx fn g = (hookX n fx fn).obs s := by
  have e : g = s.heap.get? := funext h
  rw [e] <;> rfl
section
variable {fx : List Fx} {fn : List He.DefD} {K : PySem.W.Frag}
theorem SaysX.fact (c : SaysX fx fn K) (i : Nat) {f : Fx} (h : fx[i]? = some f := by rfl) : f K = true := by
  have c1 := (He.ba (show ((fx.all fun f => f K) && fn.all fun d => d.ok K) = true from congrArg (fun z : He.AlD => z.1) c)).1
  exact List.all_eq_true.mp c1 f (List.mem_of_getElem? h)
theorem SaysX.def_ (c : SaysX fx fn K) (i : Nat) {d : He.DefD} (h : fn[i]? = some d := by rfl) : ∃ fd, FunD K d.name d.qual d.params d.body d.scope (d.dvs K) (d.kws K) (He.fAd K d.at_) fd := by
  have c2 := (He.ba (show ((fx.all fun f => f K) && fn.all fun d => d.ok K) = true from congrArg (fun z : He.AlD => z.1) c)).2
  have e : fn.map (fun d => He.fnW K d.at_) = fn.map He.DefD.val := congrArg (fun z : He.AlD => z.2) c
  have e2 : (fn.map fun d => He.fnW K d.at_)[i]? = (fn.map He.DefD.val)[i]? := by rw [e]
  rw [List.getElem?_map, List.getElem?_map, h] at e2
  exact He.DefD.funD (Option.some.inj e2) (List.all_eq_true.mp c2 d (List.mem_of_getElem? h))
end
/-! ### tests -/
/-- a name of the module that is not bound there -/
def fxFree (x : Str) : Fx := fun K => (He.Fa.free x).ok K
def fxGlo (x : Str) : Fx := fun K => (He.Fa.glo x).ok K
def fxInt (x : Str) (i : Int) : Fx := fun K => (He.Fa.int x i).ok K
def fxStr (x z : Str) : Fx := fun K => (He.Fa.str x z).ok K
def fxTup (x : Str) (vs : List He.Dv) : Fx := fun K => (He.Fa.glo x).ok K && He.tupB K x vs
section
variable {K : PySem.W.Frag} {h : Heap} {mg : Str → Option Value}
theorem gl_int (X : K.In h) (G : h.Ns mainGlobals mg) {x : Str} {i : Int} (c : fxInt x i K = true) : GlD K mg x (.int i) := by
  obtain ⟨t, e⟩ := He.int_ok X G c
  exact ⟨.int i, _, e, ⟨t, rfl⟩, fun _ _ _ => rep_int.mpr rfl⟩
theorem gl_str (X : K.In h) (G : h.Ns mainGlobals mg) {x : Str} {z : String} (c : fxStr x (Str.ofString z) K = true) (hz : (q z).length ≤ sizeLine := by decide) : GlD K mg x (.str (q z)) := by
  obtain ⟨t, e⟩ := He.str_ok X G c
  exact ⟨.str (Str.ofString z), _, e, ⟨t, rfl⟩, fun _ _ _ => rep_str.mpr ⟨by rw [q_of], hz⟩⟩
/-- a tuple of texts -/
theorem gl_tupS (X : K.In h) (G : h.Ns mainGlobals mg) {x : Str} {zs : List String} (c : fxTup x (zs.map fun z => He.Dv.str (Str.ofString z)) K = true) (hz : ∀ z ∈ zs, (q z).length ≤ sizeLine := by decide) : GlD K mg x (.tup (zs.map fun z => .str (q z))) := by
  obtain ⟨c1, c2⟩ := He.ba c
  have e := He.glo_ok X G c1
  refine ⟨.ref (He.ga K x), _, e, rfl, fun M H _ => ?_⟩
  have hs := He.tupB_ok c2 (fun _ => none)
  refine rep_tup.mpr ⟨_, (zs.map fun z => He.Dv.str (Str.ofString z)).map (He.Dv.v K), rfl, ?_, ?_⟩
  · rcases hs with hs | hs
    · rcases hs with hs | ⟨o, hs⟩ <;> cases hs
    · exact .inr hs
  · have : ∀ zs : List String, (∀ z ∈ zs, (q z).length ≤ sizeLine) → Reps K M H (zs.map fun z => .str (q z)) ((zs.map fun z => He.Dv.str (Str.ofString z)).map (He.Dv.v K)) := by
      intro zs
      induction zs with
      | nil => intro _; exact .nil
      | cons z zs ih =>
        intro hz
        exact .cons (rep_str.mpr ⟨by show V.str (Str.ofString z) = _; rw [q_of], hz z List.mem_cons_self⟩) (ih fun y hy => hz y (List.mem_cons_of_mem _ hy))
    exact this zs hz
/-- a def among the globals -/
theorem fnG_of {P : Program} {w : World} {base : Heap} {k : Nat} {x : Str} {ps : List Str} {sp : SpD} {st : Stmt} {fd : FuncData} (X : K.In h) (G : h.Ns mainGlobals mg) (F : FnP K x st (He.ga K x) fd) (c : fxGlo x K = true)
    (hb : ∀ (kV doc pm : Value) (an : Option Addr) (cdv ct : Value) (us : List Value), us.length = ps.length → bindArgs (PySem.W.fnOf x x (defArgs st) (defBody st) (defScope st) .none kV doc pm an cdv ct) ⟨us, []⟩ = pure (ps.zip us))
    (ok : FnOk P w K mg base CX0 k (He.ga K x) fd ps (lSp K mg sp)) : FnG P w K mg base k x ps sp :=
  ⟨_, fd, ok, He.glo_ok X G c, F.kp, FunD.bindsN F hb, FunD.bindsA F hb⟩
end
/-- a def as it stands among the globals -/
def Dn (K : PySem.W.Frag) (mg : Str → Option Value) (x : Str) (st : Stmt) (ps : List Str) : Prop := ∃ f fd, FnP K x st f fd ∧ mg x = some (.ref f) ∧ Binds K fd ps [] ∧ ∀ (s : Shared) (us : List Value), us.length = ps.length → BindsTo s fd ⟨us, []⟩ (ps.zip us)
theorem Dn.of {K : PySem.W.Frag} {h : Heap} {mg : Str → Option Value} {x : Str} {ps : List Str} {st : Stmt} (X : K.In h) (G : h.Ns mainGlobals mg) (F : ∃ fd, FnP K x st (He.ga K x) fd) (c : fxGlo x K = true)
    (hb : ∀ (kV doc pm : Value) (an : Option Addr) (cdv ct : Value) (us : List Value), us.length = ps.length → bindArgs (PySem.W.fnOf x x (defArgs st) (defBody st) (defScope st) .none kV doc pm an cdv ct) ⟨us, []⟩ = pure (ps.zip us)) : Dn K mg x st ps :=
  let ⟨fd, F⟩ := F
  ⟨_, fd, F, He.glo_ok X G c, FunD.bindsN F hb, FunD.bindsA F hb⟩
section
variable {P : Program} {w : World} {K : PySem.W.Frag} {mg : Str → Option Value} {base : Heap} {k : Nat} {x : Str} {ps N : List Str} {sp : SpD} {st : Stmt}
theorem Dn.fnG (D : Dn K mg x st ps) (t : TSd) (S : FnScope N ps (defScope st)) (len : ∀ ds M Q E, sp ds M Q E → ds.length = ps.length)
    (hd : ∀ (J : Jc) (f : Addr) (cdv : Value) (A : Around) (outer : List Env) (s : Shared) (H : Hp) (E : XK), Room k (A.deeper (PyProof.Rows.envOfC x (defScope st) s.heap.objs.size f cdv)) → DSs J (cxOf CX0 P w K mg base N x (defScope st) f cdv A outer s H E).nox (defBody st) t)
    (hq : ∀ ds M Φ Ψ, sp ds M Φ Ψ → t (endD M Φ) (startD N ds) M) : FnG P w K mg base (k + 1) x ps sp :=
  let ⟨f, fd, F, hm, hb⟩ := D
  ⟨f, fd, fnD t F.fun S len (fun J cdv A outer s H E hr => hd J f cdv A outer s H E hr) hq, hm, F.kp, hb⟩
/-- .. what it has made stays told -/
theorem Dn.fnGN (D : Dn K mg x st ps) (t : TSd) (S : FnScope N ps (defScope st)) (len : ∀ ds M Q E, sp ds M Q E → ds.length = ps.length)
    (hd : ∀ (J : Jc) (f : Addr) (cdv : Value) (A : Around) (outer : List Env) (s : Shared) (H : Hp) (E : XK), Room k (A.deeper (PyProof.Rows.envOfC x (defScope st) s.heap.objs.size f cdv)) → DSs J (cxOf CX0 P w K mg base N x (defScope st) f cdv A outer s H E).nox (defBody st) t)
    (hq : ∀ ds M Φ Ψ, sp ds M Φ Ψ → t (endN Φ) (startD N ds) M) : FnG P w K mg base (k + 1) x ps sp :=
  let ⟨f, fd, F, hm, hb⟩ := D
  ⟨f, fd, fnDN t F.fun S len (fun J cdv A outer s H E hr => hd J f cdv A outer s H E hr) hq, hm, F.kp, hb⟩
/-- a promise that is never asked -/
def spNo : SpD := fun _ _ _ _ => False
theorem Dn.no (D : Dn K mg x st ps) (S : FnScope N ps (defScope st)) : FnG P w K mg base (k + 1) x ps spNo :=
  let ⟨f, fd, F, hm, hb⟩ := D
  ⟨f, fd, (F.fun.ok (k := 0) S (fun vs H Q E ⟨_, _, _, _, _, _, h, _⟩ => h.elim) (fun cdv A outer s H vs Q E hr ⟨_, _, _, _, _, _, h, _⟩ => h.elim)).mono (Nat.succ_le_succ (Nat.zero_le _)), hm, F.kp, hb⟩
end
/-! ### defs that may raise -/
section
variable {P : Program} {w : World} {K : PySem.W.Frag} {mg : Str → Option Value} {base : Heap} {k : Nat} {x : Str} {ps N : List Str} {sp : SpD} {st : Stmt}
theorem Dn.fnGX (D : Dn K mg x st ps) (t : XS → TSd) (S : FnScope N ps (defScope st)) (len : ∀ ds M Q E, sp ds M Q E → ds.length = ps.length)
    (hd : ∀ (J : Jc) (f : Addr) (cdv : Value) (A : Around) (outer : List Env) (s : Shared) (H : Hp) (E : XK) (Ψ : XS), Room k (A.deeper (PyProof.Rows.envOfC x (defScope st) s.heap.objs.size f cdv)) →
      Thr (cxOf (L2.CX P w) P w K mg base N x (defScope st) f cdv A outer s H E) J (fun c d _ H => E c d H) Ψ → DSs J (cxOf (L2.CX P w) P w K mg base N x (defScope st) f cdv A outer s H E) (defBody st) (t Ψ))
    (hq : ∀ ds M Φ Ψ, sp ds M Φ Ψ → t (xsd Ψ) (endD M Φ) (startD N ds) M) : FnGX P w K mg base (k + 1) x ps sp := by
  obtain ⟨f, fd, F, hm, hb⟩ := D
  refine ⟨f, fd, F.fun.okX S (fun vs H Q E ⟨M, ds, Φ, Ψ, rm, r, h, _⟩ => ?_) (fun cdv A outer s H vs Q E hr ⟨M, ds, Φ, Ψ, rm, r, h, kq, kx⟩ => ?_), hm, F.kp, hb⟩
  · rw [← r.length]
    exact len _ _ _ _ h
  · exact ⟨_, hd (Jc.of M H) f cdv A outer s H E (xsd Ψ) hr ⟨takes_of rfl rfl rfl rfl, fun n o fs σd M' σ H' rs rm' rx q => kx n o fs M' H' rs.1.2 rm' rx q⟩, body_of rm r kq (hq ds M Φ Ψ h)⟩
theorem Dn.noX (D : Dn K mg x st ps) (S : FnScope N ps (defScope st)) : FnGX P w K mg base (k + 1) x ps spNo :=
  let ⟨f, fd, F, hm, hb⟩ := D
  ⟨f, fd, (F.fun.okX (k := 0) S (fun vs H Q E ⟨_, _, _, _, _, _, h, _⟩ => h.elim) (fun cdv A outer s H vs Q E hr ⟨_, _, _, _, _, _, h, _⟩ => h.elim)).mono (Nat.succ_le_succ (Nat.zero_le _)), hm, F.kp, hb⟩
end
/-- an own class of exceptions over ValueError -/
def fxExc (x : String) : Fx := fun K => (He.Fa.glo (Str.ofString x)).ok K && (PySem.W.excIn K (He.ga K (Str.ofString x)) PySem.HandSPX.veTail "ValueError.__new__" && (PySem.W.keepIn K (.ref (He.ga K (Str.ofString x))) &&
  (PySem.W.subIn K (.ref (He.ga K (Str.ofString x))) (.type "BaseException") == some true && PySem.W.typeIn K (.ref (He.ga K (Str.ofString x))) == some (.type "type"))))
/-- which class is under which -/
def fxSub (l : List ((String × String) × Bool)) : Fx := fun K => l.all fun e => (He.Fa.glo (Str.ofString e.1.1)).ok K && ((He.Fa.glo (Str.ofString e.1.2)).ok K && PySem.W.exmOne K (.ref (He.ga K (Str.ofString e.1.1))) (.ref (He.ga K (Str.ofString e.1.2))) == some e.2)
def subT (l : List ((String × String) × Bool)) : Sub := fun n c => (l.find? fun e => e.1.1 == n && e.1.2 == c).map (·.2)
section
variable {K : PySem.W.Frag} {h : Heap} {mg : Str → Option Value}
theorem ExF.of (X : K.In h) (G : h.Ns mainGlobals mg) {x : String} (c : fxExc x K = true) : ExF K mg x := by
  obtain ⟨c1, c2⟩ := He.ba c
  obtain ⟨c2, c3⟩ := He.ba c2
  obtain ⟨c3, c4⟩ := He.ba c3
  obtain ⟨c4, c5⟩ := He.ba c4
  exact ⟨_, He.glo_ok X G c1, c2, c3, eq_of_beq c4, eq_of_beq c5⟩
theorem SubOk.of (X : K.In h) (G : h.Ns mainGlobals mg) {l : List ((String × String) × Bool)} (c : fxSub l K = true) : SubOk K mg (subT l) := by
  intro n c' b e
  unfold subT at e
  cases ef : l.find? (fun e => e.1.1 == n && e.1.2 == c') with
  | none => rw [ef] at e; cases e
  | some z =>
    rw [ef] at e
    cases e
    have hm := List.mem_of_find?_eq_some ef
    have hp := List.find?_some ef
    obtain ⟨p1, p2⟩ := He.ba hp
    have p1 := eq_of_beq p1
    have p2 := eq_of_beq p2
    have c := List.all_eq_true.mp c z hm
    obtain ⟨c1, c2⟩ := He.ba c
    obtain ⟨c2, c3⟩ := He.ba c2
    have g1 := He.glo_ok X G c1
    have g2 := He.glo_ok X G c2
    rw [p1] at g1 c3
    rw [p2] at g2 c3
    unfold clN
    rw [g1, g2]
    exact eq_of_beq c3
theorem glo_cls (X : K.In h) (G : h.Ns mainGlobals mg) {x : Str} (c : fxGlo x K = true) : ∃ C, mg x = some (.ref C) := ⟨_, He.glo_ok X G c⟩
end
/-! ### methods and classes -/
/-- a method as it stands in its class -/
def Mn (K : PySem.W.Frag) (mg : Str → Option Value) (C : String) (m qual : Str) (st : Stmt) (ps : List Str) : Prop := ∃ f fd, Fun K m qual st f fd ∧ Cls K (clA mg C) ∧ Meth K (clA mg C) m f ∧ Binds K fd ps []
/-- a class with its __init__ -/
def Cn (K : PySem.W.Frag) (mg : Str → Option Value) (C : String) (qual : Str) (st : Stmt) (ps : List Str) : Prop := ∃ D f fd, mg (Str.ofString C) = some (.ref D) ∧ Fun K "__init__" qual st f fd ∧ Mk K D f ∧ Binds K fd ps []
def defM (C : Str) (m qual : Str) (st : Stmt) : He.DefD := ⟨(C, some m), m, qual, defArgs st, defBody st, defScope st, [], []⟩
theorem fun_of {K : PySem.W.Frag} {m qual : Str} {st : Stmt} {f : Addr} {fd : FuncData} (F : FunD K m qual (defArgs st) (defBody st) (defScope st) [] [] f fd) : Fun K m qual st f fd := by
  obtain ⟨oc, od, dV, kV, doc, pm, an, cdv, ct, osl, rfl, lk, hcd, hD, hK⟩ := F.ex
  rcases hD with ⟨_, rfl⟩ | ⟨e, _⟩
  · exact ⟨⟨oc, od, kV, doc, pm, an, cdv, ct, osl, rfl, lk, hcd⟩, F.kp⟩
  · exact absurd rfl e
section
variable {K : PySem.W.Frag} {h : Heap} {mg : Str → Option Value}
theorem clA_of (X : K.In h) (G : h.Ns mainGlobals mg) {x : String} (c : fxGlo (Str.ofString x) K = true) : clA mg x = He.ga K (Str.ofString x) := by
  unfold clA
  rw [He.glo_ok X G c]
def fxCls (x : String) : Fx := fun K => fxGlo (Str.ofString x) K && (He.Fa.cls (Str.ofString x)).ok K
def fxNoat (x f : String) : Fx := fun K => fxGlo (Str.ofString x) K && (He.Fa.noat (Str.ofString x) (Str.ofString f)).ok K
def fxMeth (x m : String) : Fx := fun K => fxGlo (Str.ofString x) K && ((He.Fa.cls (Str.ofString x)).ok K && (He.Fa.meth (Str.ofString x) (Str.ofString m)).ok K)
def fxMkr (x : String) : Fx := fun K => fxGlo (Str.ofString x) K && (He.Fa.mkr (Str.ofString x)).ok K
theorem cls_of (X : K.In h) (G : h.Ns mainGlobals mg) {x : String} (c : fxCls x K = true) : Cls K (clA mg x) := by
  obtain ⟨c1, c2⟩ := He.ba c
  rw [clA_of X G c1]
  exact He.cls_ok c2
theorem noat_of (X : K.In h) (G : h.Ns mainGlobals mg) {x f : String} (c : fxNoat x f K = true) : NoAttr K (clA mg x) (Str.ofString f) := by
  obtain ⟨c1, c2⟩ := He.ba c
  rw [clA_of X G c1]
  exact He.noat_ok c2
theorem Mn.of (X : K.In h) (G : h.Ns mainGlobals mg) {C m : String} {qual : Str} {st : Stmt} {ps : List Str} (F : ∃ fd, FunD K (Str.ofString m) qual (defArgs st) (defBody st) (defScope st) [] [] (He.fAd K (Str.ofString C, some (Str.ofString m))) fd) (c : fxMeth C m K = true)
    (hb : ∀ (kV doc pm : Value) (an : Option Addr) (cdv ct : Value) (us : List Value), us.length = ps.length → bindArgs (PySem.W.fnOf (Str.ofString m) qual (defArgs st) (defBody st) (defScope st) .none kV doc pm an cdv ct) ⟨us, []⟩ = pure (ps.zip us)) : Mn K mg C (Str.ofString m) qual st ps := by
  obtain ⟨fd, F⟩ := F
  obtain ⟨c1, c2⟩ := He.ba c
  obtain ⟨c2, c3⟩ := He.ba c2
  refine ⟨_, fd, fun_of F, ?_, ?_, FunD.bindsN F hb⟩
  · rw [clA_of X G c1]
    exact He.cls_ok c2
  · rw [clA_of X G c1]
    exact He.meth_ok c3
theorem Cn.of (X : K.In h) (G : h.Ns mainGlobals mg) {C : String} {qual : Str} {st : Stmt} {ps : List Str} (F : ∃ fd, FunD K "__init__" qual (defArgs st) (defBody st) (defScope st) [] [] (He.fAd K (Str.ofString C, some "__init__")) fd) (c : fxMkr C K = true)
    (hb : ∀ (kV doc pm : Value) (an : Option Addr) (cdv ct : Value) (us : List Value), us.length = ps.length → bindArgs (PySem.W.fnOf "__init__" qual (defArgs st) (defBody st) (defScope st) .none kV doc pm an cdv ct) ⟨us, []⟩ = pure (ps.zip us)) : Cn K mg C qual st ps := by
  obtain ⟨fd, F⟩ := F
  obtain ⟨c1, c2⟩ := He.ba c
  exact ⟨_, _, fd, He.glo_ok X G c1, fun_of F, He.mkr_ok c2, FunD.bindsN F hb⟩
end
section
variable {P : Program} {w : World} {K : PySem.W.Frag} {mg : Str → Option Value} {base : Heap} {k : Nat} {C : String} {m qual : Str} {ps N : List Str} {sp : SpD} {st : Stmt}
theorem Mn.mth (D : Mn K mg C m qual st ps) (t : TSd) (S : FnScope N ps (defScope st)) (len : ∀ ds M Q E, sp ds M Q E → ds.length = ps.length)
    (hd : ∀ (J : Jc) (f : Addr) (cdv : Value) (A : Around) (outer : List Env) (s : Shared) (H : Hp) (E : XK), Room k (A.deeper (PyProof.Rows.envOfC qual (defScope st) s.heap.objs.size f cdv)) → DSs J (cxOf CX0 P w K mg base N qual (defScope st) f cdv A outer s H E).nox (defBody st) t)
    (hq : ∀ ds M Φ Ψ, sp ds M Φ Ψ → t (endD M Φ) (startD N ds) M) : Mth P w K mg base CX0 (k + 1) (clA mg C) m ps sp :=
  let ⟨f, fd, F, c, hm, hb⟩ := D
  ⟨f, fd, fnD t F S len (fun J cdv A outer s H E hr => hd J f cdv A outer s H E hr) hq, c, hm, hb⟩
theorem Mn.mthN (D : Mn K mg C m qual st ps) (t : TSd) (S : FnScope N ps (defScope st)) (len : ∀ ds M Q E, sp ds M Q E → ds.length = ps.length)
    (hd : ∀ (J : Jc) (f : Addr) (cdv : Value) (A : Around) (outer : List Env) (s : Shared) (H : Hp) (E : XK), Room k (A.deeper (PyProof.Rows.envOfC qual (defScope st) s.heap.objs.size f cdv)) → DSs J (cxOf CX0 P w K mg base N qual (defScope st) f cdv A outer s H E).nox (defBody st) t)
    (hq : ∀ ds M Φ Ψ, sp ds M Φ Ψ → t (endN Φ) (startD N ds) M) : Mth P w K mg base CX0 (k + 1) (clA mg C) m ps sp :=
  let ⟨f, fd, F, c, hm, hb⟩ := D
  ⟨f, fd, fnDN t F S len (fun J cdv A outer s H E hr => hd J f cdv A outer s H E hr) hq, c, hm, hb⟩
theorem Mn.no (D : Mn K mg C m qual st ps) (S : FnScope N ps (defScope st)) : Mth P w K mg base CX0 (k + 1) (clA mg C) m ps spNo :=
  let ⟨f, fd, F, c, hm, hb⟩ := D
  ⟨f, fd, (F.ok (k := 0) S (fun vs H Q E ⟨_, _, _, _, _, _, h, _⟩ => h.elim) (fun cdv A outer s H vs Q E hr ⟨_, _, _, _, _, _, h, _⟩ => h.elim)).mono (Nat.succ_le_succ (Nat.zero_le _)), c, hm, hb⟩
theorem Cn.mkr (D : Cn K mg C qual st ps) (t : TSd) (S : FnScope N ps (defScope st)) (len : ∀ ds M Q E, sp ds M Q E → ds.length = ps.length)
    (hd : ∀ (J : Jc) (f : Addr) (cdv : Value) (A : Around) (outer : List Env) (s : Shared) (H : Hp) (E : XK), Room k (A.deeper (PyProof.Rows.envOfC qual (defScope st) s.heap.objs.size f cdv)) → DSs J (cxOf CX0 P w K mg base N qual (defScope st) f cdv A outer s H E).nox (defBody st) t)
    (hq : ∀ ds M Φ Ψ, sp ds M Φ Ψ → t (endN Φ) (startD N ds) M) : Mkr P w K mg base CX0 (k + 1) C ps sp :=
  let ⟨D, f, fd, e, F, hm, hb⟩ := D
  ⟨D, f, fd, e, fnDN t F S len (fun J cdv A outer s H E hr => hd J f cdv A outer s H E hr) hq, hm, hb⟩
end
/-- the law's promise over data: a list of at most 63 ints comes, True goes -/
def spLaw : SpD := fun ds M Q _ => ∃ ns : List Int, ds = [.lst (ns.map D.int)] ∧ ns.length ≤ 63 ∧ M = (fun _ => none) ∧ ∀ M', Q (.bl true) M'
theorem spLaw_of {K : PySem.W.Frag} {H : Hp} {a : Addr} {ns : List Int} (hl : ns.length ≤ 63) {mg : Str → Option Value} (hS : SqL K H a (ns.map V.int)) : lSp K mg spLaw [.ref a] H (fun v _ => v = .bl true) fun _ _ _ => False := by
  refine ⟨fun _ => none, [.lst (ns.map D.int)], fun d _ => d = .bl true, fun _ _ _ => False, (fun p o h => nomatch h), ?_, ⟨ns, rfl, hl, rfl, fun _ => rfl⟩, fun d M' v H' _ _ r e => ?_, fun _ _ _ _ _ _ _ _ z => z.elim⟩
  · refine .one (rep_lst.mpr ⟨a, ns.map V.int, rfl, ?_, ?_⟩)
    · rcases hS with h | h
      · exact .inl ⟨.inl rfl, h⟩
      · exact .inr h
    · clear hS hl
      induction ns with
      | nil => exact .nil
      | cons n ns ih => exact .cons (rep_int.mpr rfl) ih
  · subst e
    exact rep_bl.mp r
end DL

set_option Elab.async false
set_option linter.all false
set_option maxRecDepth 100000
set_option maxHeartbeats 1000000
/-! DL19: text.replace(f(d, [written texts]), written text, 1): which object a text is must be known here, so the tokens are carried. -/
namespace DL
open PySem PySem.Spec L2 PyProof.Rows

/-- a text's value that was made before the token n was given out -/
def TokS (n : Nat) (u : Value) : Prop := ∃ (x : Str) (t : Nat), u = .str x t ∧ t ≠ 0 ∧ t < n
theorem TokS.mono {n m : Nat} {u : Value} (h : TokS n u) (k : n ≤ m) : TokS m u := let ⟨x, t, a, b, c⟩ := h; ⟨x, t, a, b, Nat.lt_of_lt_of_le c k⟩

/-- what comes back of a def that gives an item of its second argument, a list whose object is known -/
def FnI (P : Program) (w : World) (K : PySem.W.Frag) (mg : Str → Option Value) (base : Heap) (k : Nat) (x : Str) (sp : SpD) : Prop :=
  ∃ f, mg x = some (.ref f) ∧ PySem.W.keepIn K (.ref f) = true ∧
    ∀ (A : Around) (outer : List Env) (s : Shared) (H : Hp) (ud : Value) (a : Addr) (dv : V) (d0 : D) (ds1 : List D) (vs : List V) (o : Obj) (us : List Value) (n : Nat) (M : Mm) (Φ : QD) (Q : VK),
      Room k A → Env0 P w K mg base A outer s H → RelV dv ud → H a = some (.frz o (.lst vs)) → o.data = .seq us.toArray n → (∀ u ∈ us, TokS s.toks u) →
      RepM K M H → Reps K M H [d0, .lst ds1] [dv, .ref a] → sp [d0, .lst ds1] M Φ X0 → (∀ d M' v H', Ev M H M' H' → RepM K M' H' → Rep K M' H' d v → Φ d M' → Q v H') →
      codeAny (model P w) A (.call (.ref f) ⟨[ud, .ref a], []⟩) (fun r s' => match r with | .ok (.ret u) => TokS s.toks u ∧ CE outer P w H s Q u s' | _ => False) s

section
variable {P : Program} {w : World} {K : PySem.W.Frag} {mg : Str → Option Value} {base : Heap} {k : Nat} {x : Str} {ps N : List Str} {sp : SpD} {st : Stmt}
theorem Dn.fnI (D : Dn K mg x st ps) (hps : ps.length = 2) (tix : TD) (S : FnScope N ps (defScope st)) {ix : Expr} {p1 p2 p3 : Pos} {y : Str} (hb : defBody st = [.Return (some (.Subscript (.Name y p1) ix p2)) p3]) (hN : N[1]? = some y)
    (hv : (defScope st).names.lookup y = some .local) (hp : PlainIx ix) (hdb : (y == ("__debug__" : Str)) = false) (hcd : (y == ("__classdict__" : Str)) = false)
    (hd : ∀ (J : Jc) (f : Addr) (cdv : Value) (A : Around) (outer : List Env) (s : Shared) (H : Hp) (E : XK), Room k (A.deeper (PyProof.Rows.envOfC x (defScope st) s.heap.objs.size f cdv)) → DE J (cxOf CX0 P w K mg base N x (defScope st) f cdv A outer s H E).nox ix tix)
    (hq : ∀ ds M Φ Ψ, sp ds M Φ Ψ → tdRet (tdOp dIxS (tdVar 1) tix) (endD M Φ) (startD N ds) M) : FnI P w K mg base (k + 1) x sp := by
  obtain ⟨f, fd, F, hm, _, hbd⟩ := D
  refine ⟨f, hm, F.kp, fun A outer s H ud a dv d0 ds1 vs o us n M Φ Q hr e0 rd hfz hdat htok rm rr hsp kq => ?_⟩
  obtain ⟨oc, od, kV, doc, pm, an, cdv, ct, osl, rfl, lk, hcode⟩ := F.fun.ex
  have hl : [dv, V.ref a].length = ps.length := by rw [hps]; rfl
  have r : Vals [dv, .ref a] [ud, .ref a] := .cons rd (.cons rfl .nil)
  have hb1 := hbd s [ud, .ref a] (by rw [hps]; rfl)
  have KX : K.In s.heap := e0.mod.kin.keeps fun b o e => (e0.bs b o e).1
  have lim : s.heap.NoLimit := e0.mod.nolimit.keeps fun b o e => (e0.bs b o e).1
  have hkind : ∀ z ∈ ps.zip [ud, Value.ref a], (defScope st).names.lookup z.1 = some .local ∨ ((defScope st).names.lookup z.1 = some .cell ∧ ((cellsFrom (s.heap.objs.size + 1) (defScope st).names []).lookup z.1).isSome = true) := fun ⟨n, v⟩ hy => by
    rcases S.par n (List.of_mem_zip hy).1 with q | q
    · exact .inl q
    · exact .inr ⟨q, PySem.W.cellsFrom_some _ _ _ (.inl q)⟩
  refine codeAny_call_function hr.depth (KX _ _ lk) rfl S.co S.gen rfl (PySem.W.codeRec_of KX hcode) (hb1 _ _ _ _ ?_)
  refine wpAny_newFunctionEnv_cells S.kind hkind fun env he s1 z => ?_
  subst he
  refine ⟨lim.keeps z.toInCall.keep, codeAny_func ?_⟩
  have I : Inv (cxOf CX0 P w K mg base N x (defScope st) f cdv A outer s H E0) [] (start N [dv, .ref a]) H s1 := inv_start S hr.hd e0 hl r z
  have rs : RepS K (Jc.of M H) M H (startD N [d0, .lst ds1]) (start N [dv, .ref a]) := by
    unfold startD L2.start
    exact RepS.start (n := N.length) rr (show Ev M H M H from .refl)
  obtain ⟨d, ed, h⟩ := (show ∃ d, (startD N [d0, .lst ds1])[1]? = some (some d) ∧ tix (startD N [d0, .lst ds1]) M (fun y M2 => dIxS M2 d y fun z => (endD M Φ).rt z M2) from hq _ _ _ _ hsp)
  obtain rfl : D.lst ds1 = d := by simpa [startD] using ed
  have hd1 := (hd (Jc.of M H) f cdv A outer s H E0 (hr.deeper _)).nox
  have hs1 : (start N [dv, V.ref a])[1]? = some (some (V.ref a)) := by simp [L2.start]
  show wpAny _ _ (execs (defBody st) _) _ _ s1
  rw [hb]
  refine wpAny_execs_cons (wpAny_Return_some (Subscript_ ?_))
  refine thn ((pe_var (X := cxOf CX0 P w K mg base N x (defScope st) f cdv A outer s H E0) (i := 1) (pos := p1) hN (.inl hv) hdb hcd).run [] s1 _ H (fun v H' => v = .ref a ∧ H' = H) I ⟨.ref a, hs1, rfl, rfl⟩) fun v s2 ⟨x0, H2, I2, r2, e1, e2⟩ => ?_
  subst e1
  rw [e2] at I2
  cases r2
  refine thn (hd1.run [] s2 _ H (fun v H3 => ∃ y M3, Ev M H M3 H3 ∧ RepM K M3 H3 ∧ Rep K M3 H3 y v ∧ dIxS M3 (.lst ds1) y fun z => (endD M Φ).rt z M3) I2 ⟨_, M, _, rs, rm, h, fun y M2 v H2 e2 rm2 r2 q2 => ⟨y, M2, e2, rm2, r2, q2⟩⟩) fun u s3 ⟨yv, H3, I3, r3, y, M3, ev3, rm3, ry, q3⟩ => ?_
  cases y <;> (try exact q3.elim)
  rename_i i
  obtain rfl := rep_int.mp ry
  obtain ⟨t, rfl⟩ := r3
  obtain ⟨d, ea, q3⟩ := (show ∃ d, atI ds1 i = some d ∧ (endD M Φ).rt d M3 from q3)
  have ra : Rep K M H (.lst ds1) (.ref a) := by
    obtain ⟨v1, v2, ev, _, r2⟩ := rr.two_inv
    cases ev
    exact r2
  obtain ⟨p, vs', e, sq, rp⟩ := vr_lst.mp (Rep.vr rm3 (ev3.rep _ _ ra))
  cases e
  obtain ⟨its, rv, pl, hz⟩ := I3.list sq
  obtain ⟨w1, e', r'⟩ := atI_rep rp ea
  have ho : s3.heap.get? a = some o := (I3.hok a _ (I3.base.frzs a o _ hfz)).1
  obtain rfl : its = us := by
    obtain ⟨o', n', g1, _, _, g4⟩ := pl
    rw [ho] at g1
    cases g1
    rw [hdat] at g4
    injection g4 with g5 _
    exact (by simpa using congrArg Array.toList g5 : us = its).symm
  obtain ⟨j, h1, h2, h3, h4, h5⟩ := atI_get e'
  obtain ⟨w2, ew, rw'⟩ := rv.get h2
  have hl := rv.length
  have hn := line63
  have hw : TokS s.toks w2 := htok w2 (List.mem_of_getElem? ew)
  have fin : TokS s.toks w2 ∧ CE outer P w H s Q w2 s3 := ⟨hw, w1, H3, I3.os, I3.bare, I3.base, I3.hok, rw', kq _ _ w1 H3 ev3.gcR rm3.gcR (Rep.less gcR_qt _ _ r') q3⟩
  by_cases h0 : 0 ≤ i
  · have hj : i.toNat = j := by
      rw [seqIndex_of h0 h5] at h1
      exact Option.some.inj h1
    exact item_listR pl.isList h0 (by omega) (by rw [hj]; simpa using ew) fin (hp _ _)
  · have hj : (i + (its.toArray.size : Int)).toNat = j := by
      rw [seqIndex_neg (by omega) h4] at h1
      rw [List.size_toArray, ← hl]
      exact Option.some.inj h1
    exact subscriptTail_builtinR (x := w2) pl.isList.typeIs slot_list_getitem.lookup
      (wpAny_getItem_list_neg (Q := fun r s' => r = w2 ∧ (TokS s.toks r ∧ CE outer P w H s Q r s')) pl.isList (by omega) (by rw [List.size_toArray] <;> omega) (by omega) (by rw [hj]; simpa using ew) ⟨rfl, fin⟩) (hp _ _)
end
/-! ### a test behind which a token is out -/
section
variable {X : Cx} {J : Jc}
/-- a statement behind which a token is out -/
structure PSo (X : Cx) (st : Stmt) (t : TS) : Prop where
  run : ∀ (pins : List (Addr × Obj)) (s : Shared) (σ : L2.St) (H : Hp) (D : Ends), Inv X pins σ H s → t D σ H → wpAny (model X.prog X.w) X.A (exec st X.env) (fun f s1 => 1 ≤ s1.toks ∧ SP X pins D f s1) X.xe s
theorem PSo.imp {st : Stmt} {t t' : TS} (h : PSo X st t) (i : ∀ D σ H, t' D σ H → t D σ H) : PSo X st t' := ⟨fun pins s σ H D I q => h.run pins s σ H D I (i D σ H q)⟩
theorem pso_if {a : Expr} {op : CmpOp} {n : Int} {r : R2} {ta : TE} {b c : List Stmt} {t u : TS} {j : Nat} {p1 p2 pos : Pos} (ho : OpR X (compareOp op) r) (ha : PE X a ta) (hb : PSs X b t) (hc : PSs X c u) (hm : behindInMarks op (.Constant (.int n) j p1) = false) :
    PSo X (.If (.Compare a [op] [.Constant (.int n) j p1] p2) b c pos) (tIfS (tTest (tOp r ta (tC (.int n)))) t u) := by
  refine ⟨fun pins s σ H D I h => wpAny_If (wpAny_isTrue_Compare1 (thn (ha.run pins s σ H _ I h) fun v s1 ⟨x, H1, I1, r1, q1⟩ => wpAny_Constant_int ?_) hm)⟩
  refine wpAny_mono (PySem.wpAny_toks (ho pins { s1 with toks := s1.toks + 1 } σ H1 x (.int n) v (.int n s1.toks) _ (I1.tok _) r1 ⟨_, rfl⟩ q1)) (fun c s3 q => ?_) fun _ _ x => x.2
  obtain ⟨hk, z, H3, I3, r3, k, e, q3⟩ := q
  have hk1 : 1 ≤ s3.toks := by have : s1.toks + 1 ≤ s3.toks := hk; omega
  subst e
  cases r3
  refine wpAny_truthy_bool ?_
  cases k with
  | true => exact wpAny_mono (PySem.wpAny_toks_of hk1 (hb.run pins s3 σ H3 D I3 q3)) (fun _ _ x => x) fun _ _ x => x.2
  | false => exact wpAny_mono (PySem.wpAny_toks_of hk1 (hc.run pins s3 σ H3 D I3 q3)) (fun _ _ x => x) fun _ _ x => x.2
theorem pss_consO {st : Stmt} {rest : List Stmt} {t u : TS} (h1 : PSo X st t) (h2 : PSsT X rest u) : PSs X (st :: rest) (tSeq t u) := by
  refine ⟨fun pins s σ H D I h => ?_⟩
  refine wpAny_execs_cons (thn (h1.run pins s σ H { D with nx := u D } I h) fun f s1 q => ?_)
  obtain ⟨hk, q⟩ := q
  cases f with
  | next =>
    obtain ⟨σ', H', I', q⟩ := q
    exact h2 pins s1 σ' H' D hk I' q
  | ret v => exact q
  | brk => exact q
  | cont => exact q
abbrev DSo (J : Jc) (X : Cx) (st : Stmt) (t : TSd) : Prop := PSo X st (lS X.K J t)
def DSsT (J : Jc) (X : Cx) (st : List Stmt) (t : TSd) : Prop := PSsT X st (lS X.K J t)
def DET (J : Jc) (X : Cx) (e : Expr) (t : TD) : Prop := PET X e (lE X.K J t)
theorem dso_if {a : Expr} {op : CmpOp} {n : Int} {r : R2d} {ta : TD} {b c : List Stmt} {t u : TSd} {j : Nat} {p1 p2 pos : Pos} (ho : OpD X (compareOp op) r) (ha : DE J X a ta) (hb : DSs J X b t) (hc : DSs J X c u) (hm : behindInMarks op (.Constant (.int n) j p1) = false := by first | exact nomark _ | rfl) :
    DSo J X (.If (.Compare a [op] [.Constant (.int n) j p1] p2) b c pos) (tdIfS (tdTest (tdOp r ta (tdC (.int n)))) t u) := by
  refine (pso_if ho ha hb hc hm).imp fun D σ H ⟨σd, M, Δ, rs, rm, h, kn, kr, kb, kc⟩ => ?_
  have z : ∀ {t : TSd} {M1 : Mm} {H1 : Hp}, Ev M H M1 H1 → RepM X.K M1 H1 → t Δ σd M1 → lS X.K J t D σ H1 := fun e1 rm1 q => ⟨σd, _, Δ, e1.slots rs, rm1, q, fun a b c d e2 => kn a b c d (e1.trans e2), fun a b c d e2 => kr a b c d (e1.trans e2), fun a b c d e2 => kb a b c d (e1.trans e2), fun a b c d e2 => kc a b c d (e1.trans e2)⟩
  refine ⟨σd, M, _, rs, rm, h, fun x M1 v H1 e1 rm1 r1 q1 => ?_⟩
  show lR X.K r v (.int n) H1 _
  refine ⟨M1, x, .int n, _, rm1, r1, rep_int.mpr rfl, q1, fun d v' H' e3 rm3 r3 q3 => ?_⟩
  obtain ⟨c, rfl, q3⟩ := q3
  obtain rfl := rep_bl.mp r3
  refine ⟨c, rfl, ?_⟩
  cases c with
  | true =>
    rw [if_pos rfl] at q3
    exact iteT (z (e1.trans e3) rm3 q3)
  | false =>
    rw [if_neg Bool.false_ne_true] at q3
    exact iteF (z (e1.trans e3) rm3 q3)
theorem dss_consO {st : Stmt} {rest : List Stmt} {t u : TSd} (h1 : DSo J X st t) (h2 : DSsT J X rest u) : DSs J X (st :: rest) (tdSeq t u) := by
  refine PSs.imp (pss_consO h1 h2) fun D σ H ⟨σd, M, Δ, rs, rm, h, kn, kr, kb, kc⟩ => ?_
  refine ⟨σd, M, _, rs, rm, h, fun σd1 M1 σ1 H1 e1 rs1 rm1 q1 => ?_, kr, kb, kc⟩
  exact ⟨σd1, M1, Δ, rs1, rm1, q1, fun a b c d e2 => kn a b c d (e1.trans e2), fun a b c d e2 => kr a b c d (e1.trans e2), fun a b c d e2 => kb a b c d (e1.trans e2), fun a b c d e2 => kc a b c d (e1.trans e2)⟩
end
/-! ### replace -/
open Builtin Builtin.Str in
theorem gives_replace1 (x y z : Str) (t u v c : Tok) (hu : u ≠ 0) (hv : v ≠ 0) (huv : u ≠ v) (hyz : (y == z) = false) (hl : tooLong (x.length + (occurrences x y 0 x.length 1).length * z.length) = false) :
    Gives («str.replace» ⟨[.str x t, .str y u, .str z v, .int 1 c], []⟩) (if ((occurrences x y 0 x.length 1).isEmpty || (y.length == 0 && z.length == 0)) = true then .val (.str x t) else .str (glued z (partsBetween x (occurrences x y 0 x.length 1) y.length))) := by
  show Gives (if ((occurrences x y 0 x.length 1).isEmpty || (y.length == 0 && z.length == 0)) = true then (do rule "str.replace.nothing"; ret (.str x t)) else
          (do let same ← isSame (.str y u) (.str z v)
              if same = true then (do rule "str.replace.old-is-new"; ret (.str x t)) else
              if tooLong (x.length + (occurrences x y 0 x.length 1).length * z.length) = true then unsupported "str.replace:memory" else
              retStr (glued z (partsBetween x (occurrences x y 0 x.length 1) y.length)))) _
  cases hc : ((occurrences x y 0 x.length 1).isEmpty || (y.length == 0 && z.length == 0))
  · rw [isSame_str_other y z u v (by simp [hu, hv]) (by simp [huv]) hyz, hl]
    exact .of_eq rfl
  · exact .rule (.of_eq rfl)
open Builtin Builtin.Str in
theorem replaced_len (x y z : Str) : (glued z (partsBetween x (occurrences x y 0 x.length 1) y.length)).length ≤ x.length + z.length := by
  have h1 := StrLaws.occ_length_le x y 0 x.length 1
  have hy : (glued y (partsBetween x (occurrences x y 0 x.length 1) y.length)).length = x.length := by rw [StrLaws.glued_between_self]
  rw [size_glued, length_partsBetween, Nat.add_sub_cancel] at hy
  rw [size_glued, length_partsBetween, Nat.add_sub_cancel]
  have h2 : (occurrences x y 0 x.length 1).length * z.length ≤ 1 * z.length := Nat.mul_le_mul_right _ h1
  omega
open Builtin Builtin.Str in
theorem call_replace1 {prog : Program} {w : World} {A : Around} {E : Value → Shared → Prop} {s : Shared} {x y z : Str} {t u v c : Tok} {Q : Value → Shared → Prop} (hu : u ≠ 0) (hv : v ≠ 0) (huv : u ≠ v) (hyz : (y == z) = false) (hb : x.length + z.length ≤ 16777216)
    (hq : ∀ x' t' k, x'.length ≤ x.length + z.length → Q (.str x' t') { s with toks := k }) : wpAny (model prog w) A (call (.builtin "str.replace") [.str x t, .str y u, .str z v, .int 1 c]) Q E s := by
  have e : (2 : Nat) ^ 24 = 16777216 := by decide
  have hl : tooLong (x.length + (occurrences x y 0 x.length 1).length * z.length) = false := by
    have h1 := StrLaws.occ_length_le x y 0 x.length 1
    have h2 : (occurrences x y 0 x.length 1).length * z.length ≤ 1 * z.length := Nat.mul_le_mul_right _ h1
    unfold tooLong sizeLine
    exact decide_eq_false (by omega)
  refine call_gives F.slot_str_replace (typeIs_str _ _ _) F.entry_str_replace (F.args_str_replace_4 _ _ _ _) (gives_replace1 x y z t u v c hu hv huv hyz hl) ?_
  cases hc : ((occurrences x y 0 x.length 1).isEmpty || (y.length == 0 && z.length == 0))
  · simp only [Bool.false_eq_true, if_false]
    exact ⟨by have := replaced_len x y z; rw [sizeLine_eq]; omega, hq _ _ _ (replaced_len x y z)⟩
  · simp only [if_true]
    exact hq x t s.toks (by omega)
/-! ### written texts, with their tokens -/
/-- es are the written texts ss -/
inductive ConS : List Expr → List String → Prop
  | nil : ConS [] []
  | cons {s : String} {j : Nat} {p : Pos} {es : List Expr} {ss : List String} (h : ConS es ss) (hl : (q s).length ≤ sizeLine := by decide) : ConS (.Constant (.str (Str.ofString s)) j p :: es) (s :: ss)
section
variable {X : Cx} {J : Jc} {pins : List (Addr × Obj)} {σ : L2.St} {H : Hp}
theorem ConS.run {pos : Pos} {es : List Expr} {ss : List String} (h : ConS es ss) : ∀ {s : Shared} {Q : List Value → Shared → Prop}, 1 ≤ s.toks → Inv X pins σ H s →
    (∀ us n, Inv X pins σ H { s with toks := n } → s.toks ≤ n → (∀ u ∈ us, TokS n u) → Vals (ss.map fun z => V.str (Str.ofString z)) us → Q us { s with toks := n }) →
    wpAny (model X.prog X.w) X.A (spliced (backTo pos (starEach es X.env))) Q X.xe s := by
  induction h with
  | nil => exact fun {s Q} _ I hq => Calls.spliced_nil (hq [] s.toks I (Nat.le_refl _) (fun _ h => by cases h) .nil)
  | @cons z j p es ss h hl ih =>
    intro s Q h1 I hq
    show wpAny _ _ (spliced ((false, eval (.Constant (.str (Str.ofString z)) j p) X.env) :: backTo pos (starEach es X.env))) _ _ s
    refine Calls.spliced_cons (Calls.Constant_str ?_)
    refine ih (s := { s with toks := s.toks + 1 }) (by show 1 ≤ s.toks + 1; omega) (I.tok _) fun us n I2 hn ht r => ?_
    have hn : s.toks + 1 ≤ n := hn
    refine hq (.str (Str.ofString z) s.toks :: us) n I2 (by omega) (fun u hu => ?_) (.cons ⟨_, rfl⟩ r)
    rcases List.mem_cons.mp hu with rfl | hu
    · exact ⟨Str.ofString z, s.toks, rfl, by omega, by omega⟩
    · exact ht u hu
theorem reps_strs {K : PySem.W.Frag} {M : Mm} {H : Hp} : ∀ {ss : List String}, (∀ z ∈ ss, (q z).length ≤ sizeLine) → Reps K M H (ss.map fun z => D.str (q z)) (ss.map fun z => V.str (Str.ofString z))
  | [], _ => .nil
  | z :: ss, h => .cons (rep_str.mpr ⟨by show V.str (Str.ofString z) = _; rw [q_of], h z List.mem_cons_self⟩) (reps_strs fun y hy => h y (List.mem_cons_of_mem _ hy))
theorem ConS.small {es : List Expr} {ss : List String} (h : ConS es ss) : ∀ z ∈ ss, (q z).length ≤ sizeLine := by
  induction h with
  | nil => exact fun _ h => by cases h
  | cons h hl ih =>
    intro z hz
    rcases List.mem_cons.mp hz with rfl | hz
    · exact hl
    · exact ih z hz
/-- o.replace(f(d, [written texts]), z, 1) -/
@[simp] def tdRepl1 (sp : SpD) (ss : List String) (z : String) (to td : TD) : TD := fun σ M Q => to σ M fun xo M1 => ∃ xs, xo = .str xs ∧ xs.length + (q z).length ≤ 16777216 ∧ td σ M1 fun d0 M2 =>
  sp [d0, .lst (ss.map fun y => .str (q y))] M2 (fun r M3 => ∃ y, r = .str y ∧ y ≠ q z ∧ ∀ x', x'.length ≤ xs.length + (q z).length → Q (.str x') M3) X0
theorem det_repl1 {O dk : Expr} {es : List Expr} {ss : List String} {x : Str} {sp : SpD} {z : String} {k : Nat} {to td : TD} {apos lp cp p pos c0 c1 : Pos} {j j1 : Nat} (F : FnI X.prog X.w X.K X.mg X.base k x sp) (hr : Room k X.A) (hg : Gl X x) (ho : DE J X O to) (hd : DE J X dk td) (hc : ConS es ss) (hl : ss.length ≤ 1000)
    (hdb : (x == ("__debug__" : Str)) = false := by decide)
    (hs1 : starEach [dk, .List es lp] X.env = [(false, eval dk X.env), (false, eval (.List es lp) X.env)] := by rfl)
    (hpl : (backTo cp (starEach [.List es lp] X.env)).any (·.1) = false := by rfl)
    (hst : starEach [.Call (.Name x p) [dk, .List es lp] [] cp, .Constant (.str (Str.ofString z)) j c0, .Constant (.int 1) j1 c1] X.env = [(false, eval (.Call (.Name x p) [dk, .List es lp] [] cp) X.env), (false, eval (.Constant (.str (Str.ofString z)) j c0) X.env), (false, eval (.Constant (.int 1) j1 c1) X.env)] := by rfl)
    (hbase : attributeBase O "replace" X.env (eval O X.env) = eval O X.env := by rfl) (hline : (apos.endLine == pos.line) = true := by rfl) :
    DET J X (.Call (.Attribute O "replace" apos) [.Call (.Name x p) [dk, .List es lp] [] cp, .Constant (.str (Str.ofString z)) j c0, .Constant (.int 1) j1 c1] [] pos) (tdRepl1 sp ss z to td) := by
  intro pins s σ H Q h0 I h
  obtain ⟨f, hm, hk, F⟩ := F
  obtain ⟨σd, M, Φ, rs, rm, h, kk⟩ := h
  refine wpAny_Call_method_lateS hbase (by rw [hst]; rfl) hline ?_
  rw [hst]
  refine wpAny_mono (PySem.wpAny_toks (ho.run pins s σ H (fun v H1 => ∃ xo M1, Ev M H M1 H1 ∧ RepM X.K M1 H1 ∧ Rep X.K M1 H1 xo v ∧ ∃ xs, xo = .str xs ∧ xs.length + (q z).length ≤ 16777216 ∧ td σd M1 fun d0 M2 =>
      sp [d0, .lst (ss.map fun y => .str (q y))] M2 (fun r M3 => ∃ y, r = .str y ∧ y ≠ q z ∧ ∀ x', x'.length ≤ xs.length + (q z).length → Φ (.str x') M3) X0) I ⟨σd, M, _, rs, rm, h, fun d M1 v H1 e1 rm1 r1 q1 => ⟨d, M1, e1, rm1, r1, q1⟩⟩)) (fun v s1 q1 => ?_) fun _ _ z => z.2
  obtain ⟨hk1, v', H1, I1, r1, xo, M1, ev1, rm1, rx, xs, rfl, hlen, h⟩ := q1
  have h1 : 1 ≤ s1.toks := Nat.le_trans h0 hk1
  obtain ⟨rfl, hxs⟩ := rep_str.mp rx
  obtain ⟨tx, rfl⟩ := r1
  refine ⟨"str", _, PySem.F.plainAttrs_str, PySem.F.slot_str_replace, PySem.F.type_str_replace, typeIs_str _ _ _, (fun _ e => nomatch e), Calls.callWith_builtin rfl (Calls.evalArgs_plain (Calls.spliced_cons ?_))⟩
  -- the first argument
  refine wpAny_mono (PySem.wpAny_toks_of (n := 1) h1 (Q := fun u s4 => TokS s4.toks u ∧ EP X pins σ (fun v H4 => ∃ r M4, Ev M1 H1 M4 H4 ∧ RepM X.K M4 H4 ∧ Rep X.K M4 H4 r v ∧ ∃ y, r = .str y ∧ y ≠ q z ∧ ∀ x', x'.length ≤ xs.length + (q z).length → Φ (.str x') M4) u s4) ?_) (fun u s4 q4 => ?_) fun _ _ z => z.2
  · refine wpAny_Call_Name_kw (ld_glob I1 hg hm ?_ hdb)
    refine PySem.W.callWith_K (h₀ := X.base) I1.ok.mod.kin hk ?_ hs1 hpl
    rw [hs1]
    show wpAny _ _ (spliced ((false, eval dk X.env) :: [(false, eval (.List es lp) X.env)])) _ _ s1
    refine Calls.spliced_cons ?_
    refine wpAny_mono (PySem.wpAny_toks (hd.run pins s1 σ H1 (fun v H2 => ∃ d0 M2, Ev M1 H1 M2 H2 ∧ RepM X.K M2 H2 ∧ Rep X.K M2 H2 d0 v ∧
      sp [d0, .lst (ss.map fun y => .str (q y))] M2 (fun r M3 => ∃ y, r = .str y ∧ y ≠ q z ∧ ∀ x', x'.length ≤ xs.length + (q z).length → Φ (.str x') M3) X0) I1 ⟨σd, M1, _, ev1.slots rs, rm1, h, fun d M1 v H1 e1 rm1 r1 q1 => ⟨d, M1, e1, rm1, r1, q1⟩⟩)) (fun ud s2 q2 => ?_) fun _ _ z => z.2
    obtain ⟨hk2, dv, H2, I2, rd, d0, M2, ev2, rm2, rd0, hsp⟩ := q2
    refine Calls.spliced_cons (wpAny_List_spliced (hc.run (Nat.le_trans h1 hk2) I2 fun us n I3 hn ht rv => ?_))
    have hul : us.length ≤ sizeLine := by
      rw [← rv.length, List.length_map, sizeLine_eq]
      omega
    refine ⟨hul, Calls.spliced_nil ?_⟩
    have hfree : H2 s2.heap.objs.size = none := I2.hok.fresh (Nat.le_refl _)
    have I4 := I3.laid (t' := n) (h' := s2.heap.push { cls := .type "list", data := .seq us.toArray }) (fun b u e => Heap.get?_push_of_some _ e) (Nat.le_refl _) (o := .frz { cls := .type "list", data := .seq us.toArray } (.lst (ss.map fun z => V.str (Str.ofString z)))) ⟨Heap.get?_push_size _ rfl, by rw [rv.length]; exact hul, us, 0, rv, Heap.get?_push_size _ rfl⟩
    refine ⟨I4.kIn, wpAny_mono (PySem.wpAny_toks (Q := fun u s4 => TokS n u ∧ EP X pins σ (fun v H4 => ∃ r M4, Ev M1 H1 M4 H4 ∧ RepM X.K M4 H4 ∧ Rep X.K M4 H4 r v ∧ ∃ y, r = .str y ∧ y ≠ q z ∧ ∀ x', x'.length ≤ xs.length + (q z).length → Φ (.str x') M4) u s4) (wpAny_call (codeAny_mono (F X.A X.stack _ _ ud s2.heap.objs.size dv d0 (ss.map fun y => .str (q y)) _ _ us 0 M2 _ (fun v H4 => ∃ r M4, Ev M1 H1 M4 H4 ∧ RepM X.K M4 H4 ∧ Rep X.K M4 H4 r v ∧ ∃ y, r = .str y ∧ y ≠ q z ∧ ∀ x', x'.length ≤ xs.length + (q z).length → Φ (.str x') M4) hr I4.env0 rd upd_same rfl ht (rm2.new hfree) ?_ hsp ?_) fun r s' hq => ?_))) (fun u s4 q => ⟨q.2.1.mono q.1, q.2.2⟩) fun _ _ z => z.2⟩
    · refine .cons ((Ev.new hfree).rep _ _ rd0) (.cons (rep_lst.mpr ⟨_, _, rfl, .inl ⟨.inl (rm2.free hfree), .inr ⟨_, upd_same⟩⟩, reps_strs hc.small⟩) .nil)
    · exact fun d M' v H' e1 rm1 r1 q1 => ⟨d, M', ev2.trans ((Ev.new hfree).trans e1), rm1, r1, q1⟩
    · cases r with
      | error e => exact hq.elim
      | ok fl =>
        cases fl with
        | ret u => exact ⟨hq.1, I4.after hq.2⟩
        | next => exact hq.elim
        | brk => exact hq.elim
        | cont => exact hq.elim
  · obtain ⟨hk4, htok, v4, H4, I5, r4, r, M4, ev4, rm4, rr, y, rfl, hy, hq⟩ := q4
    obtain ⟨yy, tt, rfl, t0, tl⟩ := htok
    obtain ⟨rfl, hyl⟩ := rep_str.mp rr
    obtain ⟨t5, e5⟩ := r4
    injection e5 with e6 _
    subst e6
    show wpAny _ _ (spliced ((false, eval (.Constant (.str (Str.ofString z)) j c0) X.env) :: [(false, eval (.Constant (.int 1) j1 c1) X.env)])) _ _ s4
    refine Calls.spliced_cons (Calls.Constant_str (Calls.spliced_cons (wpAny_Constant_int (Calls.spliced_nil ?_))))
    have hz : (Str.ofString z).length = (q z).length := by rw [q_of]; simp [Str.length]
    refine call_replace1 t0 (by show s4.toks ≠ 0; omega) (by show tt ≠ s4.toks; omega) ?_ (by rw [hz]; simpa [Str.length] using hlen) fun x' t' k hx' => ?_
    · rw [q_of]
      exact beq_false_of_ne fun e => hy (by have := congrArg (fun w : Str => w.cps.toList) e; simpa using this)
    · have hx2 : x'.cps.toList.length ≤ xs.length + (q z).length := by
        rw [hz] at hx'
        simpa [Str.length] using hx'
      exact ⟨.str x', H4, I5.tok _, ⟨t', rfl⟩, kk (.str x'.cps.toList) M4 _ H4 (ev1.trans ev4) rm4 (rep_str.mpr ⟨by simp, by rw [sizeLine_eq]; omega⟩) (hq _ hx2)⟩
/-! what rests on a token -/
theorem det_of {e : Expr} {t : TD} (h : DE J X e t) : DET J X e t := fun pins s σ H Q _ I q => h.run pins s σ H Q I q
theorem det_op {a b : Expr} {ta tb : TD} {pos : Pos} {op : Operator} {r : R2d} (ho : OpD X (binaryOp op) r) (ha : DET J X a ta) (hb : DET J X b tb) : DET J X (.BinOp a op b pos) (tdOp r ta tb) :=
  fun pins s σ H Q h0 I q => CwR.pet_op ho ha hb pins s σ H Q h0 I (lR_of q)
theorem dsst_ret {e : Expr} {te : TD} {pos : Pos} (he : DET J X e te) : DSsT J X [.Return (some e) pos] (tdRet te) := by
  intro pins s σ H D h0 I h
  refine CwR.psst_one (t := tRet (lE X.K J te)) (CwR.pst_ret he) pins s σ H D h0 I ?_
  obtain ⟨σd, M, Δ, rs, rm, h, kn, kr, _⟩ := h
  exact ⟨σd, M, _, rs, rm, h, fun d M1 v H1 e1 rm1 r1 q1 => kr d M1 v H1 e1 rm1 r1 q1⟩
end
section
variable {X : Cx}
/-- the new list of a comprehension stands, tracked -/
theorem lc_list0 {pins : List (Addr × Obj)} {s : Shared} {σ : L2.St} {H : Hp} (I : Inv X pins σ H s) :
    Inv X pins σ (upd H s.heap.objs.size (.lst [])) { s with heap := s.heap.push { cls := .type "list", data := .seq ([] : List Value).toArray } } :=
  I.laid (t' := s.toks) (fun b o e => Heap.get?_push_of_some _ e) (Nat.le_refl _) ⟨Nat.zero_le _, [], 0, .nil, Heap.get?_push_size _ rfl⟩
/-- a list comprehension whose element rests on a token -/
theorem lct_core {pins : List (Addr × Obj)} {s : Shared} {σ : L2.St} {H : Hp} {Q : VK} {elt tg iter : Expr} {ifs : List Expr} {scope : Scope} {own : List (Str × Nat)} {pos pos' : Pos} {wi : TI} {g : TG} {tt : TT} {te : TE} {use : Option (Value → Sem Unit)} {Qf : Value → Shared → Prop} (hc : X.calm = true) (hN : X.N.Nodup) (k0 : 1 ≤ s.toks) (I : Inv X pins σ H s) (hi : PI X tg iter wi) (ok : BlkOk X.N X.env.scope scope own)
    (hg : ∀ (s : Shared) (H : Hp) (C : Addr) (cl : List (Str × Addr)) (fp : List Addr), PG (X.blk s H scope (compEnvC scope cl C X.env) fp) tg g) (ht : ∀ (s : Shared) (H : Hp) (C : Addr) (cl : List (Str × Addr)) (fp : List Addr), PTs (X.blk s H scope (compEnvC scope cl C X.env) fp) ifs tt)
    (he : ∀ (s : Shared) (H : Hp) (C : Addr) (cl : List (Str × Addr)) (fp : List Addr), PET (X.blk s H scope (compEnvC scope cl C X.env) fp) elt te) (hs : ∀ x, foldedSetIterable iter X.env x = pure x)
    (h : tLc wi g tt te (own.map (·.2)) σ H Q)
    (done : ∀ D C s' m H', Inv X pins σ H' s' → Q (.ref D) H' → s'.heap.Ns C m → FpOk X pins H' C → compPost (model X.prog X.w) X.A X.xe use Qf (.ref D) C (.ok .next) s') :
    wpAny (model X.prog X.w) X.A (comprehension (.ListComp elt [⟨tg, iter, ifs, 0⟩] scope pos) scope X.env pos' (newList []) false (eval iter X.env) use) Qf X.xe s := by
  have free : ∀ y ∈ scope.names, y.2 = .free → ∃ c, X.env.cells.lookup y.1 = some c := fun y hy e => (ok.free y hy e).elim (fun k => I.ok.has _ (.inl k)) fun k => I.ok.has _ (.inr k)
  refine wpAny_comprehension_free (use := use) rfl hs (closure_ok free) ok.kind (fun y hy e => by rw [ok.uniq y hy, e]) ?_
  refine wpAny_mono (PySem.wpAny_toks_of k0 (hi.run pins s σ H _ I h)) (fun xv s1 hx => wpAny_mono (PySem.wpAny_toks_of hx.1 hx.2) (fun itv s2 h2 => ?_) fun _ _ z => z.2) fun _ _ z => z.2
  obtain ⟨k2, it, fp, tn, J, H2, rfl, I2, T, st2, f2, q⟩ := h2
  refine wpAny_newObj_type (newEnv_comp ?_) (Nat.zero_le _)
  obtain ⟨W, ⟨m0, w0⟩, turn⟩ := q _ (I2.hok.fresh (Nat.le_refl _))
  have I3 := lc_list0 I2
  have small : ∀ b ∈ fp, b < s2.heap.objs.size := fun b hb => Heap.lt_size (T.obj _ _ st2 b hb).choose_spec.1
  generalize hH3 : upd H2 s2.heap.objs.size (.lst []) = H3 at I3 w0
  have f3 : ∀ b ∈ fp, FpOk X pins H3 b ∧ b < (s2.heap.push { cls := .type "list", data := .seq ([] : List Value).toArray }).objs.size := fun b hb => by
    refine ⟨⟨?_, (f2 b hb).2⟩, by rw [Heap.size_push]; exact Nat.lt_succ_of_lt (small b hb)⟩
    rw [← hH3, upd_ne (Nat.ne_of_lt (small b hb))]
    exact (f2 b hb).1
  have st3 : tn 0 (s2.heap.push { cls := .type "list", data := .seq ([] : List Value).toArray }) := T.keep _ _ _ st2 fun b _ o e => Heap.get?_push_of_some _ e
  generalize hD : s2.heap.objs.size = D at turn I3 w0
  generalize hs3 : ({ s2 with heap := s2.heap.push { cls := .type "list", data := .seq ([] : List Value).toArray } } : Shared) = s3 at I3
  have k3 : 1 ≤ s3.toks := by rw [← hs3]; exact k2
  have e3 : s2.heap.push { cls := .type "list", data := .seq ([] : List Value).toArray } = s3.heap := by rw [← hs3]
  rw [e3] at f3 st3
  have I4 := block_start I3 ok hN f3
  generalize hcl : cellsFrom (s3.heap.objs.size + 1) scope.names (cloFrom X.env.cells scope.names []) = cl at I4
  have pg := hg s3 H3 s3.heap.objs.size cl fp
  have pt := ht s3 H3 s3.heap.objs.size cl fp
  have pe := he s3 H3 s3.heap.objs.size cl fp
  show codeAny _ _ (.compStart (.ListComp elt [⟨tg, iter, ifs, 0⟩] scope pos) 0 (.ref it) (.ref D) (compEnvC scope cl s3.heap.objs.size X.env)) (compPost (model X.prog X.w) X.A X.xe use Qf (.ref D) s3.heap.objs.size) { s3 with heap := pushCells (s3.heap.push { cls := .type "dict", data := .dict #[] }) scope.names }
  have cL : (compEnvC scope cl s3.heap.objs.size X.env).locals = s3.heap.objs.size := rfl
  generalize compEnvC scope cl s3.heap.objs.size X.env = ce at I4 pg pt pe cL ⊢
  have st4 : tn 0 (pushCells (s3.heap.push { cls := .type "dict", data := .dict #[] }) scope.names) := T.keep _ _ _ st3 fun b _ o e => pushCells_keeps _ _ _ _ (Heap.get?_push_of_some _ e)
  generalize hs4 : ({ s3 with heap := pushCells (s3.heap.push { cls := .type "dict", data := .dict #[] }) scope.names } : Shared) = s4 at I4 ⊢
  have st4 : tn 0 s4.heap := by rw [← hs4]; exact st4
  have k4 : 1 ≤ s4.toks := by rw [← hs4]; exact k3
  have still : ∀ {σ' : L2.St} {H' : Hp} {s' : Shared}, Inv (X.blk s3 H3 scope ce fp) [] σ' H' s' → (∀ b ∈ fp, H' b = none) → ∀ b ∈ fp, FpOk (X.blk s3 H3 scope ce fp) [] H' b := fun {σ' H' s'} I' hn b hb =>
    ⟨hn b hb, (I'.ok.exf b hb).1, I'.ok.exfs b hb, .inl hb, fun x c e => (I'.ok.exf b hb).2 x c e, fun p hp => absurd (show p ∈ ([] : List (Addr × Obj)) ++ [] from hp) (by simp)⟩
  refine (fun loop => codeAny_compStart_list loop (T.self X.A 0 _ _ _ st4 loop)) (?_ : codeAny (model X.prog X.w) X.A (.compLoop (.ListComp elt [⟨tg, iter, ifs, 0⟩] scope pos) 0 (.ref it) (.ref D) ce) _ s4)
  refine compLoop_any (fun n s' => 1 ≤ s'.toks ∧ ∃ i H', Inv (X.blk s3 H3 scope ce fp) [] (wipe σ (own.map (·.2))) H' s' ∧ tn i s'.heap ∧ (∀ b ∈ fp, H' b = none) ∧ W i n H') ?_ m0 ⟨k4, 0, H3, I4, st4, fun b hb => (f3 b hb).1.1, w0⟩
  rintro n s5 ⟨k5, i, H5, I5, st5, n5, w5⟩
  rcases turn i n H5 w5 with ⟨stop, qq⟩ | ⟨go, Nx, hNx, step⟩
  · refine wpAny_mono (T.done (X.blk s3 H3 scope ce fp) rfl rfl rfl hc i [] s5 _ H5 (fun _ _ => False) I5 (still I5 n5) st5 stop) (fun r s6 q6 => ?_) fun _ _ z => False.elim z
    obtain ⟨rfl, I6⟩ := q6
    have I7 : Inv X pins σ H5 s6 := I3.call' (ch := fp) I6.os I6.base I6.hok I6.bare fun b hb => ⟨(f3 b hb).1.2.2.2.1, (f3 b hb).1.2.1, (f3 b hb).1.2.2.2.2.1, (f3 b hb).1.2.2.2.2.2⟩
    have nC : H5 s3.heap.objs.size = none := by rw [← cL]; exact I6.free
    obtain ⟨m, hn, _⟩ := I6.loc
    have hn : s6.heap.Ns s3.heap.objs.size m := by rw [← cL]; exact hn
    exact done D _ s6 m H5 I7 qq hn (I3.fpOk (Nat.le_refl _) nC)
  · refine wpAny_mono (PySem.wpAny_toks_of k5 (T.item (X.blk s3 H3 scope ce fp) rfl rfl rfl hc i [] s5 _ H5 (fun _ _ => False) I5 (still I5 n5) st5 go)) (fun r s6 q6 => ?_) fun _ _ z => False.elim z.2
    obtain ⟨k6, u, rfl, h6⟩ := q6
    refine wpAny_mono (PySem.wpAny_toks_of k6 h6) (fun _ s7 q7 => ?_) fun _ _ z => False.elim z.2
    obtain ⟨k7, x, H7, I7, r7, y7, st7, n7⟩ := q7
    refine wpAny_mono (PySem.wpAny_toks_of k7 (pg.run _ s7 _ H7 x u _ (I7.pinned (still I7 n7) (T.obj _ _ st7)) r7 (step x H7 y7))) (fun _ s8 q8 => ?_) fun _ _ z => False.elim z.2
    obtain ⟨k8, σ8, H8, I8, hw8, q8⟩ := q8
    refine wpAny_mono (PySem.wpAny_toks_of k8 (pt.run _ s8 σ8 H8 _ I8 q8)) (fun b s9 q9 => ?_) fun _ _ z => False.elim z.2
    obtain ⟨k9, H9, I9, q9⟩ := q9
    have fin : ∀ {s' : Shared} {H' : Hp}, 1 ≤ s'.toks → Inv (X.blk s3 H3 scope ce fp) ([] ++ pinsAt fp s7.heap) σ8 H' s' → Nx H' → ∃ m, m < n ∧ 1 ≤ s'.toks ∧ ∃ i H', Inv (X.blk s3 H3 scope ce fp) [] (wipe σ (own.map (·.2))) H' s' ∧ tn i s'.heap ∧ (∀ b ∈ fp, H' b = none) ∧ W i m H' := fun {s' H'} k' I' nx => by
      obtain ⟨m', hm, w'⟩ := hNx H' nx
      have pin' : ∀ b ∈ fp, ∀ o, s7.heap.get? b = some o → s'.heap.get? b = some o ∧ H' b = none := fun b hb o e =>
        have z := I'.pin (b, o) (List.mem_append_right _ (List.mem_append_right _ (mem_pinsAt hb e)))
        ⟨z.1, z.2.1⟩
      refine ⟨m', hm, k', i + 1, H', (I'.unpinned (pins := [])).weak (by rw [← hw8, wipe_length]) (fun j v e => ?_), T.keep _ _ _ st7 fun b hb o e => (pin' b hb o e).1, fun b hb => ?_, w'⟩
      · rw [← hw8] at e
        exact (wipe_some e).1
      · obtain ⟨o, e, _⟩ := T.obj _ _ st7 b hb
        exact (pin' b hb o e).2
    cases b with
    | false =>
      simp only [Bool.false_eq_true, if_false] at q9 ⊢
      exact fin k9 I9 q9
    | true =>
      simp only [if_true] at q9 ⊢
      refine wpAny_mono (PySem.wpAny_toks_of k9 (pe _ s9 σ8 H9 _ k9 I9 q9)) (fun z s10 q10 => ?_) fun _ _ z => False.elim z.2
      obtain ⟨k10, yv, H10, I10, r10, acc, hD10, hz10, nx⟩ := q10
      refine wpAny_mono (PySem.wpAny_toks_of k10 (app_ok (X := X.blk s3 H3 scope ce fp) (Q := fun v s' => v = .none ∧ Inv (X.blk s3 H3 scope ce fp) ([] ++ pinsAt fp s7.heap) σ8 (upd H10 D (.lst (acc ++ [yv]))) s') (E := fun _ _ => False) I10 hD10 hz10 r10 fun s11 I11 => ⟨rfl, I11⟩)) (fun v s11 q11 => ?_) fun _ _ z => False.elim z.2
      obtain ⟨k11, rfl, I11⟩ := q11
      exact fin k11 I11 nx
end
section
variable {X : Cx}
/-- name = [..], a token out -/
theorem pst_setLc {i : Nat} {y : Str} {py : Pos} {elt tg iter : Expr} {ifs : List Expr} {scope : Scope} {own : List (Str × Nat)} {pos spos : Pos} {wi : TI} {g : TG} {tt : TT} {te : TE} (hc : X.calm = true) (hN : X.N.Nodup) (hy : X.N[i]? = some y) (hyl : X.env.scope.names.lookup y = some .local)
    (hsw : swapsWith (.ListComp elt [⟨tg, iter, ifs, 0⟩] scope pos) (some (.Name y py)) spos.line X.env = pure true) (hi : PI X tg iter wi) (ok : BlkOk X.N X.env.scope scope own)
    (hg : ∀ (s : Shared) (H : Hp) (C : Addr) (cl : List (Str × Addr)) (fp : List Addr), PG (X.blk s H scope (compEnvC scope cl C X.env) fp) tg g) (ht : ∀ (s : Shared) (H : Hp) (C : Addr) (cl : List (Str × Addr)) (fp : List Addr), PTs (X.blk s H scope (compEnvC scope cl C X.env) fp) ifs tt)
    (he : ∀ (s : Shared) (H : Hp) (C : Addr) (cl : List (Str × Addr)) (fp : List Addr), PET (X.blk s H scope (compEnvC scope cl C X.env) fp) elt te) (hs : ∀ x, foldedSetIterable iter X.env x = pure x := by intro _; rfl) :
    PST X (.Assign [.Name y py] (.ListComp elt [⟨tg, iter, ifs, 0⟩] scope pos) spos) (tAsg (tLc wi g tt te (own.map (·.2))) (gName i)) := by
  intro pins s σ H D k0 I h
  rw [exec_Assign_Name_used _ _ _ _ hsw]
  refine wpAny_bind (wpAny_standAt (wpAny_bind ?_))
  refine wpAny_bind (thn (lct_core (pos' := firstIterPos [⟨tg, iter, ifs, 0⟩] pos) (use := some (assign (.Name y py) X.env)) (Q := fun x H1 => gName i x σ H1 D.nx) (Qf := fun _ s' => SP X pins D .next s') hc hN k0 I hi ok hg ht he hs h fun L C s' m H' I' q hn f => ?_) fun _ s' hq => wpAny_pure (wpAny_pure hq))
  obtain ⟨f0, f1, f2, f3, f4, f5⟩ := f
  refine wpAny_assign_Name (store_ok2 (v := V.ref L) I' hN hy (.inl hyl) rfl (fun s2 I2 ⟨a, sb, ha⟩ => ⟨m, hn.sameBut sb ?_, fun h3 sb3 => ⟨_, H', I2.turned (t' := s2.toks) (fun b o hb e => (sb3.2 b hb).trans e) f0 f1 f3 f4 f5, q⟩⟩) (.inr hyl))
  rcases ha with z | z
  · rw [z]; exact f1
  · exact fun e => f4 y a z e.symm
end
section
variable {X : Cx} {J : Jc} {tg e elt : Expr} {te : TD} {pos p : Pos}
theorem dst_setLcB (m : Bool) {i : Nat} {y : Str} {py : Pos} {ifs : List Expr} {scope : Scope} {own : List (Str × Nat)} {spos : Pos} {ti : TID} {g : Tgt} {tt : TTd} (hc : X.calm = true) (hN : X.N.Nodup) (hy : X.N[i]? = some y) (hyl : X.env.scope.names.lookup y = some .local)
    (hsw : swapsWith (.ListComp elt [⟨tg, e, ifs, 0⟩] scope pos) (some (.Name y py)) spos.line X.env = pure true) (hi : DI J X tg e ti) (ok : BlkOk X.N X.env.scope scope own)
    (hg : ∀ (s : Shared) (H : Hp) (C : Addr) (cl : List (Str × Addr)) (fp : List Addr), DTg (X.blk s H scope (PySem.compEnvC scope cl C X.env) fp) tg g) (ht : ∀ (s : Shared) (H : Hp) (C : Addr) (cl : List (Str × Addr)) (fp : List Addr), DTs J (X.blk s H scope (PySem.compEnvC scope cl C X.env) fp) ifs tt)
    (he : ∀ (s : Shared) (H : Hp) (C : Addr) (cl : List (Str × Addr)) (fp : List Addr), DET J (X.blk s H scope (PySem.compEnvC scope cl C X.env) fp) elt te) (hv : ∀ i ∈ g.ix, i ∈ own.map (·.2) := by decide) (hs : ∀ x, foldedSetIterable e X.env x = pure x := by intro _; rfl) :
    PST X (.Assign [.Name y py] (.ListComp elt [⟨tg, e, ifs, 0⟩] scope pos) spos) (lS X.K J (tdSet i (tdLcB m ti g tt te (own.map (·.2))))) := by
  intro pins s σ H D k0 I h
  refine pst_setLc (te := lE X.K J te) (g := gT X.K g) (tt := lT X.K J tt) hc hN hy hyl hsw hi ok hg ht he hs pins s σ H D k0 I ?_
  obtain ⟨σd, M, Δ, rs, rm, h, kn, _⟩ := h
  exact lc_of hv ⟨σd, M, _, rs, rm, h, fun d M1 v H1 e1 rm1 r1 q1 => kn _ M1 _ H1 e1 ((e1.slots rs).set r1 i) rm1 q1⟩
theorem dsst_cons {st : Stmt} {rest : List Stmt} {t u : TSd} (h1 : PST X st (lS X.K J t)) (h2 : DSsT J X rest u) : DSsT J X (st :: rest) (tdSeq t u) := by
  intro pins s σ H D k0 I h
  refine psst_cons h1 h2 pins s σ H D k0 I ?_
  obtain ⟨σd, M, Δ, rs, rm, h, kn, kr, kb, kc⟩ := h
  refine ⟨σd, M, _, rs, rm, h, fun σd1 M1 σ1 H1 e1 rs1 rm1 q1 => ?_, kr, kb, kc⟩
  exact ⟨σd1, M1, Δ, rs1, rm1, q1, fun a b c d e2 => kn a b c d (e1.trans e2), fun a b c d e2 => kr a b c d (e1.trans e2), fun a b c d e2 => kb a b c d (e1.trans e2), fun a b c d e2 => kc a b c d (e1.trans e2)⟩
theorem dsst_of {st : List Stmt} {t : TSd} (h : DSs J X st t) : DSsT J X st t := fun pins s σ H D _ I q => h.run pins s σ H D I q
/-- text.replace of written texts -/
@[simp] def tdReplC (y z : String) (to : TD) : TD := fun σ M Q => to σ M fun xo M1 => ∃ xs, xo = .str xs ∧ xs.length + (xs.length + 1) * (q z).length ≤ 16777216 ∧ Q (.str (Txt.replace ⟨xs.toArray⟩ (Str.ofString y) (Str.ofString z)).cps.toList) M1
theorem det_replC {o : Expr} {to : TD} {y z : String} {j k : Nat} {c0 c1 apos pos : Pos} (ho : DE J X o to) (hyz : (Str.ofString y == Str.ofString z) = false := by decide)
    (hst : starEach [.Constant (.str (Str.ofString y)) j c0, .Constant (.str (Str.ofString z)) k c1] X.env = [(false, eval (.Constant (.str (Str.ofString y)) j c0) X.env), (false, eval (.Constant (.str (Str.ofString z)) k c1) X.env)] := by rfl)
    (hbase : attributeBase o "replace" X.env (eval o X.env) = eval o X.env := by rfl) (hline : (apos.endLine == pos.line) = true := by rfl) :
    DET J X (.Call (.Attribute o "replace" apos) [.Constant (.str (Str.ofString y)) j c0, .Constant (.str (Str.ofString z)) k c1] [] pos) (tdReplC y z to) := by
  intro pins s σ H Q k0 I h
  refine CwR.pet_replC ho hyz hst hbase hline pins s σ H Q k0 I ?_
  obtain ⟨σd, M, Φ, rs, rm, h, kk⟩ := h
  refine ⟨σd, M, _, rs, rm, h, fun d M1 v H1 e1 rm1 r1 q1 => ?_⟩
  obtain ⟨xs, rfl, hl, q1⟩ := q1
  obtain ⟨rfl, hx⟩ := rep_str.mp r1
  have hz : (Str.ofString z).length = (q z).length := by rw [q_of]; simp [Str.length]
  have hxl : (⟨xs.toArray⟩ : Str).length = xs.length := by simp [Str.length]
  refine ⟨_, rfl, by rw [hz, hxl]; exact hl, kk _ M1 _ H1 e1 rm1 (rep_str.mpr ⟨by simp, ?_⟩) q1⟩
  have := TK.replace_len ⟨xs.toArray⟩ (Str.ofString y) (Str.ofString z)
  rw [hz, hxl] at this
  have e : (Txt.replace ⟨xs.toArray⟩ (Str.ofString y) (Str.ofString z)).cps.toList.length = (Txt.replace ⟨xs.toArray⟩ (Str.ofString y) (Str.ofString z)).length := by simp [Str.length]
  rw [e, sizeLine_eq]
  omega
/-! a token by a written text -/
/-- an expression behind which a token is out -/
def PEo (X : Cx) (e : Expr) (t : TE) : Prop :=
  ∀ (pins : List (Addr × Obj)) (s : Shared) (σ : L2.St) (H : Hp) (Q : VK), Inv X pins σ H s → t σ H Q → wpAny (model X.prog X.w) X.A (eval e X.env) (fun u s1 => 1 ≤ s1.toks ∧ EP X pins σ Q u s1) X.xe s
def DEo (J : Jc) (X : Cx) (e : Expr) (t : TD) : Prop := PEo X e (lE X.K J t)
theorem deo_str {s : String} {j : Nat} {pos : Pos} (h : (q s).length ≤ sizeLine := by decide) : DEo J X (.Constant (.str (Str.ofString s)) j pos) (tdC (.str (q s))) := by
  intro pins s1 σ H Q I ⟨σd, M, Φ, rs, rm, q, k⟩
  exact Calls.Constant_str ⟨by show 1 ≤ s1.toks + 1; omega, .str (Str.ofString s), H, I.tok _, ⟨_, rfl⟩, k _ M _ H .refl rm (rep_str.mpr ⟨by rw [q_of], h⟩) q⟩
theorem deo_bm {T name id : String} {r : RMd} {o : Expr} {es : List Expr} {to : TD} {t : TAd} {apos cpos : Pos} (pa : PlainAttrs T) (slot : Slot T name id) (hty : typeOf (.builtin id) = pure (.type "method_descriptor")) (hm : MtD X id r) (ho : DEo J X o to) (ha : DA J X (e :: es) t)
    (hbase : attributeBase o name X.env (eval o X.env) = eval o X.env := by rfl)
    (hfew : ((backTo cpos (starEach (e :: es) X.env)).all (fun x => !x.1) && (backToKw cpos (keywordEach [] X.env)).all (fun x => x.1.isSome)
      && decide ((e :: es).length + ([] : List Keyword).length + (if ([] : List Keyword).isEmpty then 0 else 1) < 30)) = true := by rfl)
    (hline : (apos.endLine == cpos.line) = true := by rfl) (hs : starEach (e :: es) X.env = (false, eval e X.env) :: starEach es X.env := by rfl) (hplain : (backTo cpos (starEach es X.env)).any (·.1) = false := by rfl) :
    DEo J X (.Call (.Attribute o name apos) (e :: es) [] cpos) (tdBM T r to t) := by
  intro pins s σ H Q I h
  obtain ⟨σd, M, Φ, rs, rm, h, k⟩ := h
  refine wpAny_Call_method_late hbase hfew hline rfl (thn (ho pins s σ H (fun v H1 => ∃ x M1, Ev M H M1 H1 ∧ RepM X.K M1 H1 ∧ Rep X.K M1 H1 x v ∧ tyD T M1 x ∧ t σd M1 fun ds M2 => r M2 x ds Φ) I ⟨σd, M, _, rs, rm, h, fun d M1 v H1 e1 rm1 r1 q1 => ⟨d, M1, e1, rm1, r1, q1⟩⟩) fun v s1 ⟨k1, x', H1, I1, r1, x, M1, e1, rm1, rx, ty, q1⟩ => ?_)
  obtain ⟨h1, h2⟩ := tyV_is I1 r1 (tyD_ok rm1 rx ty)
  refine ⟨T, id, pa, slot, hty, h1, h2, ?_⟩
  have hA := ha.run cpos pins s1 σ H1 (fun vs H2 => ∃ ds M2, Ev M1 H1 M2 H2 ∧ RepM X.K M2 H2 ∧ Reps X.K M2 H2 ds vs ∧ r M2 x ds Φ) I1 ⟨σd, M1, _, e1.slots rs, rm1, q1, fun ds M2 vs H2 e2 rm2 r2 q2 => ⟨ds, M2, e2, rm2, r2, q2⟩⟩
  rw [hs] at hA ⊢
  refine Calls.callWith_builtin (by show (false || (backTo cpos (starEach es X.env)).any (·.1)) = false; rw [hplain] <;> rfl) (Calls.evalArgs_plain ?_)
  refine wpAny_mono (PySem.wpAny_toks_of k1 hA) (fun us s2 ⟨k2, vs, H2, I2, r2, ds, M2, e2, rm2, rds, q2⟩ => ?_) fun _ _ z => z.2
  exact wpAny_mono (PySem.wpAny_toks_of k2 (hm pins s2 σ H2 x' vs v us Q I2 r1 r2 ⟨M2, x, ds, Φ, rm2, e2.rep _ _ rx, rds, q2, fun d M' v H' e3 rm3 r3 q3 => k d M' v H' (e1.trans (e2.trans e3)) rm3 r3 q3⟩)) (fun _ _ z => z) fun _ _ z => z.2
theorem deo_op2 {a b : Expr} {ta tb : TD} {op : Operator} {r : R2d} (ho : OpD X (binaryOp op) r) (ha : DE J X a ta) (hb : DEo J X b tb) : DEo J X (.BinOp a op b pos) (tdOp r ta tb) := by
  intro pins s σ H Q I h
  refine wpAny_BinOp (thn (ha.run pins s σ H _ I (lR_of h)) fun v s1 ⟨x, H1, I1, r1, q1⟩ => thn (hb pins s1 σ H1 _ I1 q1) fun u s2 ⟨k2, y, H2, I2, r2, q2⟩ => ?_)
  exact wpAny_mono (PySem.wpAny_toks_of k2 (ho pins s2 σ H2 x y v u Q I2 r1 r2 q2)) (fun _ _ z => z) fun _ _ z => z.2
theorem dso_set {i : Nat} {x : Str} {pos' : Pos} (hN : X.N.Nodup) (hi : X.N[i]? = some x) (hx : Loc X.env.scope x) (he : DEo J X e te) (hs : swapsWith e (some (.Name x pos')) pos.line X.env = pure false := by rfl) (hf : X.fn x = true ∨ X.env.scope.names.lookup x = some .local := by first | exact .inl rfl | exact .inr rfl | assumption) :
    DSo J X (.Assign [.Name x pos'] e pos) (tdSet i te) := by
  refine ⟨fun pins s σ H D I h => ?_⟩
  obtain ⟨σd, M, Δ, rs, rm, h, kn, _⟩ := h
  refine wpAny_Assign_Name (thn (he pins s σ H (fun v H1 => ∃ d M1, Ev M H M1 H1 ∧ RepM X.K M1 H1 ∧ Rep X.K M1 H1 d v ∧ Δ.nx (σd.set i (some d)) M1) I ⟨σd, M, _, rs, rm, h, fun d M1 v H1 e1 rm1 r1 q1 => ⟨d, M1, e1, rm1, r1, q1⟩⟩) fun v s1 ⟨k1, y, H1, I1, r1, d, M1, e1, rm1, rd, q1⟩ => ?_) hs
  refine wpAny_mono (PySem.wpAny_toks_of k1 (store_ok (Q := fun _ s' => Inv X pins (σ.set i (some y)) H1 s') I1 hN hi hx r1 (fun _ I2 => I2) hf)) (fun _ s2 z => ?_) fun _ _ z => z.2
  exact ⟨z.1, _, H1, z.2, kn _ M1 _ H1 e1 ((e1.slots rs).set rd i) rm1 q1⟩
end
end DL

set_option Elab.async false
set_option linter.all false
set_option maxRecDepth 100000
set_option maxHeartbeats 4000000
namespace K01
open PySem L2 DL
def xsubL : List ((String × String) × Bool) := [(("InvalidText", "InvalidText"), true), (("InvalidText", "ReadError"), true)]
abbrev xsub : Sub := subT xsubL
def top (i : Nat) : Stmt := PySem.Challenge.pw_sharedreads_k16_spoilt_texts.main.body.getD i (.Pass ⟨0, 0, 0, 0⟩)
def mem (i j : Nat) : Stmt := match top i with
  | .ClassDef _ _ _ b .. => b.getD j (.Pass ⟨0, 0, 0, 0⟩)
  | s => s
theorem bv_all : bootBuiltins "all" = some (.builtin "all") := by decide +kernel
theorem bv_bool : bootBuiltins "bool" = some (.type "bool") := by decide +kernel
theorem bv_int : bootBuiltins "int" = some (.type "int") := by decide +kernel
theorem bv_isinstance : bootBuiltins "isinstance" = some (.builtin "isinstance") := by decide +kernel
theorem bv_len : bootBuiltins "len" = some (.builtin "len") := by decide +kernel
theorem bv_str : bootBuiltins "str" = some (.type "str") := by decide +kernel
theorem bv_tuple : bootBuiltins "tuple" = some (.type "tuple") := by decide +kernel
/-- what the walk asks of the globals -/
structure Txt (K : PySem.W.Frag) (mg : Str → Option Value) : Prop where
  b_all : mg "all" = none
  b_bool : mg "bool" = none
  b_int : mg "int" = none
  b_isinstance : mg "isinstance" = none
  b_len : mg "len" = none
  b_range : mg "range" = none
  b_set : mg "set" = none
  b_sorted : mg "sorted" = none
  b_str : mg "str" = none
  b_tuple : mg "tuple" = none
  b_zip : mg "zip" = none
  c_LETTERS : GlD K mg "LETTERS" (.str (q "abcdefghijklmnopqrstuvwxyz"))
  c_MODES : GlD K mg "MODES" (.tup [(.str (q "ahead")), (.str (q "one"))])
  c_MOST_DEEP : GlD K mg "MOST_DEEP" (.int 8)
  c_MOST_MARKS : GlD K mg "MOST_MARKS" (.int 3)
  c_MOST_READERS : GlD K mg "MOST_READERS" (.int 4)
  c_MOST_STEPS : GlD K mg "MOST_STEPS" (.int 40)
  c_MOST_TAKE : GlD K mg "MOST_TAKE" (.int 3)
  x_InvalidText : ExF K mg "InvalidText"
  k_InvalidText : ∃ C, mg (Str.ofString "InvalidText") = some (.ref C)
  k_ReadError : ∃ C, mg (Str.ofString "ReadError") = some (.ref C)
  x_sub : SubOk K mg xsub
section
variable {P : Program} {w : World} {K : PySem.W.Frag} {mg : Str → Option Value} {base : Heap} {k : Nat}

/-! is_whole -/
abbrev s_is_whole : Stmt := top 11
abbrev n_is_whole : List Str := ["value", "low", "high"]
theorem sc_is_whole : FnScope ["value", "low", "high"] ["value", "low", "high"] (defScope s_is_whole) := ⟨rfl, rfl, rfl, by decide +kernel, rfl, by decide +kernel, by decide +kernel⟩
def t_is_whole : TSd := (tdRet (tdAndV (tdCB dIsi (tdCons (tdVar 0) (tdCons (tdC (.ty "int")) tdNil))) (tdAndV (tdNotV (tdCB dIsi (tdCons (tdVar 0) (tdCons (tdC (.ty "bool")) tdNil)))) (tdChain dLe dLe (tdVar 1) (tdVar 0) (tdVar 2)))))
theorem d_is_whole (T : Txt K mg) (J : Jc) (f : Addr) (cdv : Value) (A : Around) (outer : List Env) (s : Shared) (H : Hp) (E : XK) (hr : Room k (A.deeper (PyProof.Rows.envOfC "is_whole" (defScope s_is_whole) s.heap.objs.size f cdv))) :
    DSs J (cxOf CX0 P w K mg base ["value", "low", "high"] "is_whole" (defScope s_is_whole) f cdv A outer s H E).nox (defBody s_is_whole) (t_is_whole) :=
  have sc := sc_is_whole
  (dss_one (ds_ret (de_and (de_callB call_dIsi rfl T.b_isinstance bv_isinstance (da_cons (de_var (i := 0)) (da_cons (de_bltn rfl T.b_int bv_int) da_nil))) (de_and (de_not (de_callB call_dIsi rfl T.b_isinstance bv_isinstance (da_cons (de_var (i := 0)) (da_cons (de_bltn rfl T.b_bool bv_bool) da_nil)))) (de_one (de_chain op_dLe op_dLe (de_var (i := 1)) (de_var (i := 0)) (de_var (i := 2))))))))
theorem g_is_whole {sp : SpD} (T : Txt K mg) (D : Dn K mg "is_whole" s_is_whole ["value", "low", "high"]) (len : ∀ ds M Q E, sp ds M Q E → ds.length = 3)
    (hq : ∀ ds M Φ Ψ, sp ds M Φ Ψ → t_is_whole (endD M Φ) (startD n_is_whole ds) M) : FnG P w K mg base (k + 1) "is_whole" ["value", "low", "high"] sp :=
  D.fnG (t_is_whole) sc_is_whole len (fun J f cdv A outer s H E hr => d_is_whole T J f cdv A outer s H E hr) hq

/-! is_label -/
abbrev s_is_label : Stmt := top 12
abbrev n_is_label : List Str := ["value", "letter"]
theorem sc_is_label : FnScope ["value", "letter"] ["value"] (defScope s_is_label) := ⟨rfl, rfl, rfl, by decide +kernel, rfl, by decide +kernel, by decide +kernel⟩
def t_is_label : TSd := (tdSeq (tdIfS (tdOr (tdNot (tdTruth (tdCB dIsi (tdCons (tdVar 0) (tdCons (tdC (.ty "str")) tdNil))))) (tdNot (tdTest (tdChain dLe dLe (tdC (.int 1)) (tdCB dLen (tdCons (tdVar 0) tdNil)) (tdC (.int 8)))))) (tdRet (tdC (.bl false))) tdNext) (tdRet (tdCB dAll (tdCons (tdLc (tdSeqI (tdVar 0)) (.one 1) tdYes (tdOp dIn (tdVar 1) (tdC (.str (q "abcdefghijklmnopqrstuvwxyz")))) [1]) tdNil))))
theorem d_is_label (T : Txt K mg) (J : Jc) (f : Addr) (cdv : Value) (A : Around) (outer : List Env) (s : Shared) (H : Hp) (E : XK) (hr : Room k (A.deeper (PyProof.Rows.envOfC "is_label" (defScope s_is_label) s.heap.objs.size f cdv))) :
    DSs J (cxOf CX0 P w K mg base ["value", "letter"] "is_label" (defScope s_is_label) f cdv A outer s H E).nox (defBody s_is_label) (t_is_label) :=
  have sc := sc_is_label
  (dss_cons (ds_if (dt_w (dw_or (dt_not (dt_truth (de_callB call_dIsi rfl T.b_isinstance bv_isinstance (da_cons (de_var (i := 0)) (da_cons (de_bltn rfl T.b_str bv_str) da_nil))))) (dw_or1 (dt_not (dt_chain op_dLe op_dLe de_int (de_callB call_dLen rfl T.b_len bv_len (da_cons (de_var (i := 0)) da_nil)) de_int))))) (dss_one (ds_ret de_bl)) dss_nil) (dss_one (ds_ret (de_callB (call_dAll rfl) rfl T.b_all bv_all (da_cons (de_lcB false (own := [("letter", 1)]) rfl sc.nd (di_seq (de_var (i := 0))) (blkOk_by (N := n_is_label) (sc := defScope s_is_label) (by decide +kernel)) (fun _ _ _ _ _ => (dtg_name (i := 1) sc.nd rfl (by first | exact Or.inl rfl | exact Or.inr rfl))) (fun _ _ _ _ _ => dts_nil) (fun _ _ _ _ _ => (de_cmp (op_dIn (hu67 hr)) (de_var (i := 1)) (de_gl T.c_LETTERS rfl) (by rfl)))) da_nil)))))
theorem g_is_label {sp : SpD} (T : Txt K mg) (D : Dn K mg "is_label" s_is_label ["value"]) (len : ∀ ds M Q E, sp ds M Q E → ds.length = 1)
    (hq : ∀ ds M Φ Ψ, sp ds M Φ Ψ → t_is_label (endD M Φ) (startD n_is_label ds) M) : FnG P w K mg base (k + 1) "is_label" ["value"] sp :=
  D.fnG (t_is_label) sc_is_label len (fun J f cdv A outer s H E hr => d_is_label T J f cdv A outer s H E hr) hq

/-! are_readers -/
abbrev s_are_readers : Stmt := top 13
abbrev n_are_readers : List Str := ["value", "reader", "one", "other"]
theorem sc_are_readers : FnScope ["value", "reader", "one", "other"] ["value"] (defScope s_are_readers) := ⟨rfl, rfl, rfl, by decide +kernel, rfl, by decide +kernel, by decide +kernel⟩
def t_are_readers (sp_is_label : SpD) : TSd := (tdSeq (tdIfS (tdOr (tdNot (tdTruth (tdCB dIsi (tdCons (tdVar 0) (tdCons (tdC (.ty "tuple")) tdNil))))) (tdNot (tdTest (tdChain dLe dLe (tdC (.int 1)) (tdCB dLen (tdCons (tdVar 0) tdNil)) (tdC (.int 4)))))) (tdRet (tdC (.bl false))) tdNext) (tdSeq (tdFor (tdSeqI (tdVar 0)) (.one 1) (tdSeq (tdIfS (tdOr (tdNot (tdTruth (tdCB dIsi (tdCons (tdVar 1) (tdCons (tdC (.ty "tuple")) tdNil))))) (tdOr (tdTest (tdOp dNe (tdCB dLen (tdCons (tdVar 1) tdNil)) (tdC (.int 2)))) (tdNot (tdTruth (tdCall sp_is_label (tdCons (tdOp dIxS (tdVar 1) (tdC (.int 0))) tdNil)))))) (tdRet (tdC (.bl false))) tdNext) (tdIfS (tdOr (tdNot (tdTruth (tdCB dIsi (tdCons (tdOp dIxS (tdVar 1) (tdC (.int 1))) (tdCons (tdC (.ty "str")) tdNil))))) (tdTest (tdOp dNotIn (tdOp dIxS (tdVar 1) (tdC (.int 1))) (tdC (.tup [(.str (q "ahead")), (.str (q "one"))]))))) (tdRet (tdC (.bl false))) tdNext))) (tdRet (tdCB dAll (tdCons (tdLc (tdZip (tdCons (tdVar 0) (tdCons (tdSl (tdVar 0) (tdPart (tdC (.int 1))) tdNoPart) tdNil))) (.many [2, 3]) tdYes (tdOp dLt (tdOp dIxS (tdVar 2) (tdC (.int 0))) (tdOp dIxS (tdVar 3) (tdC (.int 0)))) [2, 3]) tdNil)))))
theorem d_are_readers {sp_is_label : SpD} (T : Txt K mg) (G_is_label : FnG P w K mg base k "is_label" ["value"] sp_is_label) (J : Jc) (f : Addr) (cdv : Value) (A : Around) (outer : List Env) (s : Shared) (H : Hp) (E : XK) (hr : Room k (A.deeper (PyProof.Rows.envOfC "are_readers" (defScope s_are_readers) s.heap.objs.size f cdv))) :
    DSs J (cxOf CX0 P w K mg base ["value", "reader", "one", "other"] "are_readers" (defScope s_are_readers) f cdv A outer s H E).nox (defBody s_are_readers) (t_are_readers sp_is_label) :=
  have sc := sc_are_readers
  (dss_cons (ds_if (dt_w (dw_or (dt_not (dt_truth (de_callB call_dIsi rfl T.b_isinstance bv_isinstance (da_cons (de_var (i := 0)) (da_cons (de_bltn rfl T.b_tuple bv_tuple) da_nil))))) (dw_or1 (dt_not (dt_chain op_dLe op_dLe de_int (de_callB call_dLen rfl T.b_len bv_len (da_cons (de_var (i := 0)) da_nil)) (de_gl T.c_MOST_READERS rfl)))))) (dss_one (ds_ret de_bl)) dss_nil) (dss_cons (ds_for PassesOwn.never rfl (di_seq (de_var (i := 0))) (dtg_name (i := 1) sc.nd rfl (by first | exact Or.inl rfl | exact Or.inr rfl)) (dss_cons (ds_if (dt_w (dw_or (dt_not (dt_truth (de_callB call_dIsi rfl T.b_isinstance bv_isinstance (da_cons (de_var (i := 1)) (da_cons (de_bltn rfl T.b_tuple bv_tuple) da_nil))))) (dw_or (dt_cmp (op_dNe (hu66 hr)) (de_callB call_dLen rfl T.b_len bv_len (da_cons (de_var (i := 1)) da_nil)) de_int) (dw_or1 (dt_not (dt_truth (de_callG G_is_label hr rfl (da_cons (de_ix (de_var (i := 1)) de_int) da_nil) (Nat.le_refl _)))))))) (dss_one (ds_ret de_bl)) dss_nil) (dss_one (ds_if (dt_w (dw_or (dt_not (dt_truth (de_callB call_dIsi rfl T.b_isinstance bv_isinstance (da_cons (de_ix (de_var (i := 1)) de_int) (da_cons (de_bltn rfl T.b_str bv_str) da_nil))))) (dw_or1 (dt_cmp (op_dNotIn (hu67 hr)) (de_ix (de_var (i := 1)) de_int) (de_gl T.c_MODES rfl) (by rfl))))) (dss_one (ds_ret de_bl)) dss_nil)))) (dss_one (ds_ret (de_callB (call_dAll rfl) rfl T.b_all bv_all (da_cons (de_lcB false (own := [("one", 2), ("other", 3)]) rfl sc.nd (di_zip rfl T.b_zip (da_cons (de_var (i := 0)) (da_cons (de_slice (de_var (i := 0)) (do_some de_int) do_none) da_nil))) (blkOk_by (N := n_are_readers) (sc := defScope s_are_readers) (by decide +kernel)) (fun _ _ _ _ _ => (dtg_tup (is := [2, 3]) rfl (pgs_cons (pg_name (i := 2) sc.nd rfl (by first | exact Or.inl rfl | exact Or.inr rfl)) (pgs_cons (pg_name (i := 3) sc.nd rfl (by first | exact Or.inl rfl | exact Or.inr rfl)) pgs_nil)))) (fun _ _ _ _ _ => dts_nil) (fun _ _ _ _ _ => (de_cmp op_dLt (de_ix (de_var (i := 2)) de_int) (de_ix (de_var (i := 3)) de_int)))) da_nil))))))
theorem g_are_readers {sp_is_label : SpD} {sp : SpD} (T : Txt K mg) (D : Dn K mg "are_readers" s_are_readers ["value"]) (G_is_label : FnG P w K mg base k "is_label" ["value"] sp_is_label) (len : ∀ ds M Q E, sp ds M Q E → ds.length = 1)
    (hq : ∀ ds M Φ Ψ, sp ds M Φ Ψ → t_are_readers sp_is_label (endD M Φ) (startD n_are_readers ds) M) : FnG P w K mg base (k + 1) "are_readers" ["value"] sp :=
  D.fnG (t_are_readers sp_is_label) sc_are_readers len (fun J f cdv A outer s H E hr => d_are_readers T G_is_label J f cdv A outer s H E hr) hq

/-! names_of -/
abbrev s_names_of : Stmt := top 14
abbrev n_names_of : List Str := ["readers", "reader"]
theorem sc_names_of : FnScope ["readers", "reader"] ["readers"] (defScope s_names_of) := ⟨rfl, rfl, rfl, by decide +kernel, rfl, by decide +kernel, by decide +kernel⟩
def t_names_of : TSd := (tdRet (tdLc (tdSeqI (tdVar 0)) (.one 1) tdYes (tdOp dIxS (tdVar 1) (tdC (.int 0))) [1]))
theorem d_names_of (T : Txt K mg) (J : Jc) (f : Addr) (cdv : Value) (A : Around) (outer : List Env) (s : Shared) (H : Hp) (E : XK) (hr : Room k (A.deeper (PyProof.Rows.envOfC "names_of" (defScope s_names_of) s.heap.objs.size f cdv))) :
    DSs J (cxOf CX0 P w K mg base ["readers", "reader"] "names_of" (defScope s_names_of) f cdv A outer s H E).nox (defBody s_names_of) (t_names_of) :=
  have sc := sc_names_of
  (dss_one (ds_ret (de_lcB false (own := [("reader", 1)]) rfl sc.nd (di_seq (de_var (i := 0))) (blkOk_by (N := n_names_of) (sc := defScope s_names_of) (by decide +kernel)) (fun _ _ _ _ _ => (dtg_name (i := 1) sc.nd rfl (by first | exact Or.inl rfl | exact Or.inr rfl))) (fun _ _ _ _ _ => dts_nil) (fun _ _ _ _ _ => (de_ix (de_var (i := 1)) de_int)))))
theorem g_names_of {sp : SpD} (T : Txt K mg) (D : Dn K mg "names_of" s_names_of ["readers"]) (len : ∀ ds M Q E, sp ds M Q E → ds.length = 1)
    (hq : ∀ ds M Φ Ψ, sp ds M Φ Ψ → t_names_of (endD M Φ) (startD n_names_of ds) M) : FnG P w K mg base (k + 1) "names_of" ["readers"] sp :=
  D.fnG (t_names_of) sc_names_of len (fun J f cdv A outer s H E hr => d_names_of T J f cdv A outer s H E hr) hq

/-! is_name -/
abbrev s_is_name : Stmt := top 15
abbrev n_is_name : List Str := ["readers", "value"]
theorem sc_is_name : FnScope ["readers", "value"] ["readers", "value"] (defScope s_is_name) := ⟨rfl, rfl, rfl, by decide +kernel, rfl, by decide +kernel, by decide +kernel⟩
def t_is_name (sp_names_of : SpD) : TSd := (tdRet (tdAndV (tdCB dIsi (tdCons (tdVar 1) (tdCons (tdC (.ty "str")) tdNil))) (tdOp dIn (tdVar 1) (tdCall sp_names_of (tdCons (tdVar 0) tdNil)))))
theorem d_is_name {sp_names_of : SpD} (T : Txt K mg) (G_names_of : FnG P w K mg base k "names_of" ["readers"] sp_names_of) (J : Jc) (f : Addr) (cdv : Value) (A : Around) (outer : List Env) (s : Shared) (H : Hp) (E : XK) (hr : Room k (A.deeper (PyProof.Rows.envOfC "is_name" (defScope s_is_name) s.heap.objs.size f cdv))) :
    DSs J (cxOf CX0 P w K mg base ["readers", "value"] "is_name" (defScope s_is_name) f cdv A outer s H E).nox (defBody s_is_name) (t_is_name sp_names_of) :=
  have sc := sc_is_name
  (dss_one (ds_ret (de_and (de_callB call_dIsi rfl T.b_isinstance bv_isinstance (da_cons (de_var (i := 1)) (da_cons (de_bltn rfl T.b_str bv_str) da_nil))) (de_one (de_cmp (op_dIn (hu67 hr)) (de_var (i := 1)) (de_callG G_names_of hr rfl (da_cons (de_var (i := 0)) da_nil) (Nat.le_refl _)) (by rfl))))))
theorem g_is_name {sp_names_of : SpD} {sp : SpD} (T : Txt K mg) (D : Dn K mg "is_name" s_is_name ["readers", "value"]) (G_names_of : FnG P w K mg base k "names_of" ["readers"] sp_names_of) (len : ∀ ds M Q E, sp ds M Q E → ds.length = 2)
    (hq : ∀ ds M Φ Ψ, sp ds M Φ Ψ → t_is_name sp_names_of (endD M Φ) (startD n_is_name ds) M) : FnG P w K mg base (k + 1) "is_name" ["readers", "value"] sp :=
  D.fnG (t_is_name sp_names_of) sc_is_name len (fun J f cdv A outer s H E hr => d_is_name T G_names_of J f cdv A outer s H E hr) hq

/-! is_mark -/
abbrev s_is_mark : Stmt := top 16
abbrev n_is_mark : List Str := ["value"]
theorem sc_is_mark : FnScope ["value"] ["value"] (defScope s_is_mark) := ⟨rfl, rfl, rfl, by decide +kernel, rfl, by decide +kernel, by decide +kernel⟩
def t_is_mark (sp_is_label : SpD) : TSd := (tdRet (tdAndV (tdCall sp_is_label (tdCons (tdVar 0) tdNil)) (tdOp dEq (tdCB dLen (tdCons (tdVar 0) tdNil)) (tdC (.int 1)))))
theorem d_is_mark {sp_is_label : SpD} (T : Txt K mg) (G_is_label : FnG P w K mg base k "is_label" ["value"] sp_is_label) (J : Jc) (f : Addr) (cdv : Value) (A : Around) (outer : List Env) (s : Shared) (H : Hp) (E : XK) (hr : Room k (A.deeper (PyProof.Rows.envOfC "is_mark" (defScope s_is_mark) s.heap.objs.size f cdv))) :
    DSs J (cxOf CX0 P w K mg base ["value"] "is_mark" (defScope s_is_mark) f cdv A outer s H E).nox (defBody s_is_mark) (t_is_mark sp_is_label) :=
  have sc := sc_is_mark
  (dss_one (ds_ret (de_and (de_callG G_is_label hr rfl (da_cons (de_var (i := 0)) da_nil) (Nat.le_refl _)) (de_one (de_cmp (op_dEq (hu66 hr)) (de_callB call_dLen rfl T.b_len bv_len (da_cons (de_var (i := 0)) da_nil)) de_int)))))
theorem g_is_mark {sp_is_label : SpD} {sp : SpD} (T : Txt K mg) (D : Dn K mg "is_mark" s_is_mark ["value"]) (G_is_label : FnG P w K mg base k "is_label" ["value"] sp_is_label) (len : ∀ ds M Q E, sp ds M Q E → ds.length = 1)
    (hq : ∀ ds M Φ Ψ, sp ds M Φ Ψ → t_is_mark sp_is_label (endD M Φ) (startD n_is_mark ds) M) : FnG P w K mg base (k + 1) "is_mark" ["value"] sp :=
  D.fnG (t_is_mark sp_is_label) sc_is_mark len (fun J f cdv A outer s H E hr => d_is_mark T G_is_label J f cdv A outer s H E hr) hq

/-! inner -/
abbrev s_inner : Stmt := top 17
abbrev n_inner : List Str := ["item"]
theorem sc_inner : FnScope ["item"] ["item"] (defScope s_inner) := ⟨rfl, rfl, rfl, by decide +kernel, rfl, by decide +kernel, by decide +kernel⟩
def t_inner : TSd := (tdSeq (tdIfS (tdTest (tdOp dIn (tdOp dIxS (tdVar 0) (tdC (.int 0))) (tdTup (tdCons (tdC (.str (q "if"))) (tdCons (tdC (.str (q "while"))) tdNil))))) (tdRet (tdSl (tdVar 0) (tdPart (tdC (.int 3))) tdNoPart)) tdNext) (tdRet (tdIf (tdTest (tdOp dEq (tdOp dIxS (tdVar 0) (tdC (.int 0))) (tdC (.str (q "call"))))) (tdSl (tdVar 0) (tdPart (tdC (.int 1))) tdNoPart) (tdTup tdNil))))
theorem d_inner (T : Txt K mg) (J : Jc) (f : Addr) (cdv : Value) (A : Around) (outer : List Env) (s : Shared) (H : Hp) (E : XK) (hr : Room k (A.deeper (PyProof.Rows.envOfC "inner" (defScope s_inner) s.heap.objs.size f cdv))) :
    DSs J (cxOf CX0 P w K mg base ["item"] "inner" (defScope s_inner) f cdv A outer s H E).nox (defBody s_inner) (t_inner) :=
  have sc := sc_inner
  (dss_cons (ds_if (dt_cmp (op_dIn (hu67 hr)) (de_ix (de_var (i := 0)) de_int) (de_tup (da_cons (de_str (s := "if")) (da_cons (de_str (s := "while")) da_nil))) (by rfl)) (dss_one (ds_ret (de_slice (de_var (i := 0)) (do_some de_int) do_none))) dss_nil) (dss_one (ds_ret (de_if (dt_cmp (op_dEq (hu66 hr)) (de_ix (de_var (i := 0)) de_int) (de_str (s := "call"))) (de_slice (de_var (i := 0)) (do_some de_int) do_none) (de_tup da_nil)))))
theorem g_inner {sp : SpD} (T : Txt K mg) (D : Dn K mg "inner" s_inner ["item"]) (len : ∀ ds M Q E, sp ds M Q E → ds.length = 1)
    (hq : ∀ ds M Φ Ψ, sp ds M Φ Ψ → t_inner (endD M Φ) (startD n_inner ds) M) : FnG P w K mg base (k + 1) "inner" ["item"] sp :=
  D.fnG (t_inner) sc_inner len (fun J f cdv A outer s H E hr => d_inner T J f cdv A outer s H E hr) hq

/-! is_simple -/
abbrev s_is_simple : Stmt := top 18
abbrev n_is_simple : List Str := ["readers", "item"]
theorem sc_is_simple : FnScope ["readers", "item"] ["readers", "item"] (defScope s_is_simple) := ⟨rfl, rfl, rfl, by decide +kernel, rfl, by decide +kernel, by decide +kernel⟩
def t_is_simple (sp_is_name sp_is_whole sp_is_mark : SpD) : TSd := (tdSeq (tdIfS (tdOr (tdTest (tdOp dLt (tdCB dLen (tdCons (tdVar 1) tdNil)) (tdC (.int 2)))) (tdNot (tdTruth (tdCall sp_is_name (tdCons (tdVar 0) (tdCons (tdOp dIxS (tdVar 1) (tdC (.int 1))) tdNil)))))) (tdRet (tdC (.bl false))) tdNext) (tdSeq (tdIfS (tdTest (tdOp dEq (tdOp dIxS (tdVar 1) (tdC (.int 0))) (tdC (.str (q "back"))))) (tdRet (tdOp dEq (tdCB dLen (tdCons (tdVar 1) tdNil)) (tdC (.int 2)))) tdNext) (tdSeq (tdIfS (tdTest (tdOp dNe (tdCB dLen (tdCons (tdVar 1) tdNil)) (tdC (.int 3)))) (tdRet (tdC (.bl false))) tdNext) (tdSeq (tdIfS (tdTest (tdOp dEq (tdOp dIxS (tdVar 1) (tdC (.int 0))) (tdC (.str (q "take"))))) (tdRet (tdCall sp_is_whole (tdCons (tdOp dIxS (tdVar 1) (tdC (.int 2))) (tdCons (tdC (.int 1)) (tdCons (tdC (.int 3)) tdNil))))) tdNext) (tdSeq (tdIfS (tdTest (tdOp dEq (tdOp dIxS (tdVar 1) (tdC (.int 0))) (tdC (.str (q "until"))))) (tdRet (tdCall sp_is_mark (tdCons (tdOp dIxS (tdVar 1) (tdC (.int 2))) tdNil))) tdNext) (tdRet (tdAndV (tdOp dEq (tdOp dIxS (tdVar 1) (tdC (.int 0))) (tdC (.str (q "give")))) (tdAndV (tdCall sp_is_name (tdCons (tdVar 0) (tdCons (tdOp dIxS (tdVar 1) (tdC (.int 2))) tdNil))) (tdOp dNe (tdOp dIxS (tdVar 1) (tdC (.int 1))) (tdOp dIxS (tdVar 1) (tdC (.int 2))))))))))))
theorem d_is_simple {sp_is_name sp_is_whole sp_is_mark : SpD} (T : Txt K mg) (G_is_name : FnG P w K mg base k "is_name" ["readers", "value"] sp_is_name) (G_is_whole : FnG P w K mg base k "is_whole" ["value", "low", "high"] sp_is_whole) (G_is_mark : FnG P w K mg base k "is_mark" ["value"] sp_is_mark) (J : Jc) (f : Addr) (cdv : Value) (A : Around) (outer : List Env) (s : Shared) (H : Hp) (E : XK) (hr : Room k (A.deeper (PyProof.Rows.envOfC "is_simple" (defScope s_is_simple) s.heap.objs.size f cdv))) :
    DSs J (cxOf CX0 P w K mg base ["readers", "item"] "is_simple" (defScope s_is_simple) f cdv A outer s H E).nox (defBody s_is_simple) (t_is_simple sp_is_name sp_is_whole sp_is_mark) :=
  have sc := sc_is_simple
  (dss_cons (ds_if (dt_w (dw_or (dt_cmp op_dLt (de_callB call_dLen rfl T.b_len bv_len (da_cons (de_var (i := 1)) da_nil)) de_int) (dw_or1 (dt_not (dt_truth (de_callG G_is_name hr rfl (da_cons (de_var (i := 0)) (da_cons (de_ix (de_var (i := 1)) de_int) da_nil)) (Nat.le_refl _))))))) (dss_one (ds_ret de_bl)) dss_nil) (dss_cons (ds_if (dt_cmp (op_dEq (hu66 hr)) (de_ix (de_var (i := 1)) de_int) (de_str (s := "back"))) (dss_one (ds_ret (de_cmp (op_dEq (hu66 hr)) (de_callB call_dLen rfl T.b_len bv_len (da_cons (de_var (i := 1)) da_nil)) de_int))) dss_nil) (dss_cons (ds_if (dt_cmp (op_dNe (hu66 hr)) (de_callB call_dLen rfl T.b_len bv_len (da_cons (de_var (i := 1)) da_nil)) de_int) (dss_one (ds_ret de_bl)) dss_nil) (dss_cons (ds_if (dt_cmp (op_dEq (hu66 hr)) (de_ix (de_var (i := 1)) de_int) (de_str (s := "take"))) (dss_one (ds_ret (de_callG G_is_whole hr rfl (da_cons (de_ix (de_var (i := 1)) de_int) (da_cons de_int (da_cons (de_gl T.c_MOST_TAKE rfl) da_nil))) (Nat.le_refl _)))) dss_nil) (dss_cons (ds_if (dt_cmp (op_dEq (hu66 hr)) (de_ix (de_var (i := 1)) de_int) (de_str (s := "until"))) (dss_one (ds_ret (de_callG G_is_mark hr rfl (da_cons (de_ix (de_var (i := 1)) de_int) da_nil) (Nat.le_refl _)))) dss_nil) (dss_one (ds_ret (de_and (de_cmp (op_dEq (hu66 hr)) (de_ix (de_var (i := 1)) de_int) (de_str (s := "give"))) (de_and (de_callG G_is_name hr rfl (da_cons (de_var (i := 0)) (da_cons (de_ix (de_var (i := 1)) de_int) da_nil)) (Nat.le_refl _)) (de_one (de_cmp (op_dNe (hu66 hr)) (de_ix (de_var (i := 1)) de_int) (de_ix (de_var (i := 1)) de_int))))))))))))
theorem g_is_simple {sp_is_name sp_is_whole sp_is_mark : SpD} {sp : SpD} (T : Txt K mg) (D : Dn K mg "is_simple" s_is_simple ["readers", "item"]) (G_is_name : FnG P w K mg base k "is_name" ["readers", "value"] sp_is_name) (G_is_whole : FnG P w K mg base k "is_whole" ["value", "low", "high"] sp_is_whole) (G_is_mark : FnG P w K mg base k "is_mark" ["value"] sp_is_mark) (len : ∀ ds M Q E, sp ds M Q E → ds.length = 2)
    (hq : ∀ ds M Φ Ψ, sp ds M Φ Ψ → t_is_simple sp_is_name sp_is_whole sp_is_mark (endD M Φ) (startD n_is_simple ds) M) : FnG P w K mg base (k + 1) "is_simple" ["readers", "item"] sp :=
  D.fnG (t_is_simple sp_is_name sp_is_whole sp_is_mark) sc_is_simple len (fun J f cdv A outer s H E hr => d_is_simple T G_is_name G_is_whole G_is_mark J f cdv A outer s H E hr) hq

/-! is_look -/
abbrev s_is_look : Stmt := top 19
abbrev n_is_look : List Str := ["readers", "item"]
theorem sc_is_look : FnScope ["readers", "item"] ["readers", "item"] (defScope s_is_look) := ⟨rfl, rfl, rfl, by decide +kernel, rfl, by decide +kernel, by decide +kernel⟩
def t_is_look (sp_is_name sp_is_mark : SpD) : TSd := (tdSeq (tdIfS (tdOr (tdTest (tdOp dNe (tdCB dLen (tdCons (tdVar 1) tdNil)) (tdOp dSub (tdC (.int 5)) (tdCB dIntC (tdCons (tdOp dEq (tdOp dIxS (tdVar 1) (tdC (.int 0))) (tdC (.str (q "while")))) tdNil))))) (tdNot (tdTruth (tdCall sp_is_name (tdCons (tdVar 0) (tdCons (tdOp dIxS (tdVar 1) (tdC (.int 1))) tdNil)))))) (tdRet (tdC (.bl false))) tdNext) (tdRet (tdOrV (tdOp dEq (tdOp dIxS (tdVar 1) (tdC (.int 2))) (tdC (.str (q "")))) (tdCall sp_is_mark (tdCons (tdOp dIxS (tdVar 1) (tdC (.int 2))) tdNil)))))
theorem d_is_look {sp_is_name sp_is_mark : SpD} (T : Txt K mg) (G_is_name : FnG P w K mg base k "is_name" ["readers", "value"] sp_is_name) (G_is_mark : FnG P w K mg base k "is_mark" ["value"] sp_is_mark) (J : Jc) (f : Addr) (cdv : Value) (A : Around) (outer : List Env) (s : Shared) (H : Hp) (E : XK) (hr : Room k (A.deeper (PyProof.Rows.envOfC "is_look" (defScope s_is_look) s.heap.objs.size f cdv))) :
    DSs J (cxOf CX0 P w K mg base ["readers", "item"] "is_look" (defScope s_is_look) f cdv A outer s H E).nox (defBody s_is_look) (t_is_look sp_is_name sp_is_mark) :=
  have sc := sc_is_look
  (dss_cons (ds_if (dt_w (dw_or (dt_cmp (op_dNe (hu66 hr)) (de_callB call_dLen rfl T.b_len bv_len (da_cons (de_var (i := 1)) da_nil)) (de_op op_dSub de_int (de_callTy call_dInt rfl T.b_int bv_int (da_cons (de_cmp (op_dEq (hu66 hr)) (de_ix (de_var (i := 1)) de_int) (de_str (s := "while"))) da_nil)))) (dw_or1 (dt_not (dt_truth (de_callG G_is_name hr rfl (da_cons (de_var (i := 0)) (da_cons (de_ix (de_var (i := 1)) de_int) da_nil)) (Nat.le_refl _))))))) (dss_one (ds_ret de_bl)) dss_nil) (dss_one (ds_ret (de_or (de_cmp (op_dEq (hu66 hr)) (de_ix (de_var (i := 1)) de_int) (de_str (s := ""))) (de_one (de_callG G_is_mark hr rfl (da_cons (de_ix (de_var (i := 1)) de_int) da_nil) (Nat.le_refl _)))))))
theorem g_is_look {sp_is_name sp_is_mark : SpD} {sp : SpD} (T : Txt K mg) (D : Dn K mg "is_look" s_is_look ["readers", "item"]) (G_is_name : FnG P w K mg base k "is_name" ["readers", "value"] sp_is_name) (G_is_mark : FnG P w K mg base k "is_mark" ["value"] sp_is_mark) (len : ∀ ds M Q E, sp ds M Q E → ds.length = 2)
    (hq : ∀ ds M Φ Ψ, sp ds M Φ Ψ → t_is_look sp_is_name sp_is_mark (endD M Φ) (startD n_is_look ds) M) : FnG P w K mg base (k + 1) "is_look" ["readers", "item"] sp :=
  D.fnG (t_is_look sp_is_name sp_is_mark) sc_is_look len (fun J f cdv A outer s H E hr => d_is_look T G_is_name G_is_mark J f cdv A outer s H E hr) hq

/-! size_of_item -/
abbrev s_size_of_item : Stmt := top 20
abbrev n_size_of_item : List Str := ["readers", "item", "deep", "found", "part", "more"]
theorem sc_size_of_item : FnScope ["readers", "item", "deep", "found", "part", "more"] ["readers", "item", "deep"] (defScope s_size_of_item) := ⟨rfl, rfl, rfl, by decide +kernel, rfl, by decide +kernel, by decide +kernel⟩
def t_size_of_item (sp_is_simple sp_is_look sp_inner sp_size_of : SpD) : TSd := (tdSeq (tdIfS (tdOr (tdNot (tdTruth (tdCB dIsi (tdCons (tdVar 1) (tdCons (tdC (.ty "tuple")) tdNil))))) (tdOr (tdTest (tdOp dEq (tdVar 1) (tdTup tdNil))) (tdNot (tdTruth (tdCB dIsi (tdCons (tdOp dIxS (tdVar 1) (tdC (.int 0))) (tdCons (tdC (.ty "str")) tdNil))))))) (tdRet (tdC .non)) tdNext) (tdSeq (tdIfS (tdTest (tdOp dNotIn (tdOp dIxS (tdVar 1) (tdC (.int 0))) (tdTup (tdCons (tdC (.str (q "if"))) (tdCons (tdC (.str (q "while"))) (tdCons (tdC (.str (q "call"))) tdNil)))))) (tdRet (tdIf (tdTruth (tdCall sp_is_simple (tdCons (tdVar 0) (tdCons (tdVar 1) tdNil)))) (tdC (.int 1)) (tdC .non))) tdNext) (tdSeq (tdIfS (tdOr (tdAnd (tdTest (tdOp dEq (tdOp dIxS (tdVar 1) (tdC (.int 0))) (tdC (.str (q "call"))))) (tdTest (tdOp dNe (tdCB dLen (tdCons (tdVar 1) tdNil)) (tdC (.int 2))))) (tdAnd (tdTest (tdOp dNe (tdOp dIxS (tdVar 1) (tdC (.int 0))) (tdC (.str (q "call"))))) (tdNot (tdTruth (tdCall sp_is_look (tdCons (tdVar 0) (tdCons (tdVar 1) tdNil))))))) (tdRet (tdC .non)) tdNext) (tdSeq (tdSet 3 (tdC (.int 1))) (tdSeq (tdFor (tdSeqI (tdCall sp_inner (tdCons (tdVar 1) tdNil))) (.one 4) (tdSeq (tdSet 5 (tdCall sp_size_of (tdCons (tdVar 0) (tdCons (tdVar 4) (tdCons (tdOp dAdd (tdVar 2) (tdC (.int 1))) tdNil))))) (tdSeq (tdIfS (tdTest (tdOp dIsN (tdVar 5) (tdC .non))) (tdRet (tdC .non)) tdNext) (tdSet 3 (tdOp dAdd (tdVar 3) (tdVar 5)))))) (tdRet (tdVar 3)))))))
theorem d_size_of_item {sp_is_simple sp_is_look sp_inner sp_size_of : SpD} (T : Txt K mg) (G_is_simple : FnG P w K mg base k "is_simple" ["readers", "item"] sp_is_simple) (G_is_look : FnG P w K mg base k "is_look" ["readers", "item"] sp_is_look) (G_inner : FnG P w K mg base k "inner" ["item"] sp_inner) (G_size_of : FnG P w K mg base k "size_of" ["readers", "body", "deep"] sp_size_of) (J : Jc) (f : Addr) (cdv : Value) (A : Around) (outer : List Env) (s : Shared) (H : Hp) (E : XK) (hr : Room k (A.deeper (PyProof.Rows.envOfC "size_of_item" (defScope s_size_of_item) s.heap.objs.size f cdv))) :
    DSs J (cxOf CX0 P w K mg base ["readers", "item", "deep", "found", "part", "more"] "size_of_item" (defScope s_size_of_item) f cdv A outer s H E).nox (defBody s_size_of_item) (t_size_of_item sp_is_simple sp_is_look sp_inner sp_size_of) :=
  have sc := sc_size_of_item
  (dss_cons (ds_if (dt_w (dw_or (dt_not (dt_truth (de_callB call_dIsi rfl T.b_isinstance bv_isinstance (da_cons (de_var (i := 1)) (da_cons (de_bltn rfl T.b_tuple bv_tuple) da_nil))))) (dw_or (dt_cmp (op_dEq (hu66 hr)) (de_var (i := 1)) (de_tup da_nil)) (dw_or1 (dt_not (dt_truth (de_callB call_dIsi rfl T.b_isinstance bv_isinstance (da_cons (de_ix (de_var (i := 1)) de_int) (da_cons (de_bltn rfl T.b_str bv_str) da_nil))))))))) (dss_one (ds_ret de_non)) dss_nil) (dss_cons (ds_if (dt_cmp (op_dNotIn (hu67 hr)) (de_ix (de_var (i := 1)) de_int) (de_tup (da_cons (de_str (s := "if")) (da_cons (de_str (s := "while")) (da_cons (de_str (s := "call")) da_nil)))) (by rfl)) (dss_one (ds_ret (de_if (dt_truth (de_callG G_is_simple hr rfl (da_cons (de_var (i := 0)) (da_cons (de_var (i := 1)) da_nil)) (Nat.le_refl _))) de_int de_non))) dss_nil) (dss_cons (ds_if (dt_w (dw_or (dt_w (dw_and (dt_cmp (op_dEq (hu66 hr)) (de_ix (de_var (i := 1)) de_int) (de_str (s := "call"))) (dw_and1 (dt_cmp (op_dNe (hu66 hr)) (de_callB call_dLen rfl T.b_len bv_len (da_cons (de_var (i := 1)) da_nil)) de_int)))) (dw_or1 (dt_w (dw_and (dt_cmp (op_dNe (hu66 hr)) (de_ix (de_var (i := 1)) de_int) (de_str (s := "call"))) (dw_and1 (dt_not (dt_truth (de_callG G_is_look hr rfl (da_cons (de_var (i := 0)) (da_cons (de_var (i := 1)) da_nil)) (Nat.le_refl _)))))))))) (dss_one (ds_ret de_non)) dss_nil) (dss_cons (ds_set (i := 3) sc.nd rfl (by first | exact Or.inl rfl | exact Or.inr rfl) de_int) (dss_cons (ds_for PassesOwn.never rfl (di_seq (de_callG G_inner hr rfl (da_cons (de_var (i := 1)) da_nil) (Nat.le_refl _))) (dtg_name (i := 4) sc.nd rfl (by first | exact Or.inl rfl | exact Or.inr rfl)) (dss_cons (ds_set (i := 5) sc.nd rfl (by first | exact Or.inl rfl | exact Or.inr rfl) (de_callG G_size_of hr rfl (da_cons (de_var (i := 0)) (da_cons (de_var (i := 4)) (da_cons (de_op op_dAdd (de_var (i := 2)) de_int) da_nil))) (Nat.le_refl _))) (dss_cons (ds_if (dt_cmp op_dIsN (de_var (i := 5)) de_non) (dss_one (ds_ret de_non)) dss_nil) (dss_one (ds_set (i := 3) sc.nd rfl (by first | exact Or.inl rfl | exact Or.inr rfl) (de_op op_dAdd (de_var (i := 3)) (de_var (i := 5)))))))) (dss_one (ds_ret (de_var (i := 3)))))))))
theorem g_size_of_item {sp_is_simple sp_is_look sp_inner sp_size_of : SpD} {sp : SpD} (T : Txt K mg) (D : Dn K mg "size_of_item" s_size_of_item ["readers", "item", "deep"]) (G_is_simple : FnG P w K mg base k "is_simple" ["readers", "item"] sp_is_simple) (G_is_look : FnG P w K mg base k "is_look" ["readers", "item"] sp_is_look) (G_inner : FnG P w K mg base k "inner" ["item"] sp_inner) (G_size_of : FnG P w K mg base k "size_of" ["readers", "body", "deep"] sp_size_of) (len : ∀ ds M Q E, sp ds M Q E → ds.length = 3)
    (hq : ∀ ds M Φ Ψ, sp ds M Φ Ψ → t_size_of_item sp_is_simple sp_is_look sp_inner sp_size_of (endD M Φ) (startD n_size_of_item ds) M) : FnG P w K mg base (k + 1) "size_of_item" ["readers", "item", "deep"] sp :=
  D.fnG (t_size_of_item sp_is_simple sp_is_look sp_inner sp_size_of) sc_size_of_item len (fun J f cdv A outer s H E hr => d_size_of_item T G_is_simple G_is_look G_inner G_size_of J f cdv A outer s H E hr) hq

/-! size_of -/
abbrev s_size_of : Stmt := top 21
abbrev n_size_of : List Str := ["readers", "body", "deep", "found", "item", "more"]
theorem sc_size_of : FnScope ["readers", "body", "deep", "found", "item", "more"] ["readers", "body", "deep"] (defScope s_size_of) := ⟨rfl, rfl, rfl, by decide +kernel, rfl, by decide +kernel, by decide +kernel⟩
def t_size_of (sp_size_of_item : SpD) : TSd := (tdSeq (tdIfS (tdOr (tdNot (tdTruth (tdCB dIsi (tdCons (tdVar 1) (tdCons (tdC (.ty "tuple")) tdNil))))) (tdTest (tdOp dGt (tdVar 2) (tdC (.int 8))))) (tdRet (tdC .non)) tdNext) (tdSeq (tdSet 3 (tdC (.int 0))) (tdSeq (tdFor (tdSeqI (tdVar 1)) (.one 4) (tdSeq (tdSet 5 (tdCall sp_size_of_item (tdCons (tdVar 0) (tdCons (tdVar 4) (tdCons (tdVar 2) tdNil))))) (tdSeq (tdIfS (tdTest (tdOp dIsN (tdVar 5) (tdC .non))) (tdRet (tdC .non)) tdNext) (tdSet 3 (tdOp dAdd (tdVar 3) (tdVar 5)))))) (tdRet (tdVar 3)))))
theorem d_size_of {sp_size_of_item : SpD} (T : Txt K mg) (G_size_of_item : FnG P w K mg base k "size_of_item" ["readers", "item", "deep"] sp_size_of_item) (J : Jc) (f : Addr) (cdv : Value) (A : Around) (outer : List Env) (s : Shared) (H : Hp) (E : XK) (hr : Room k (A.deeper (PyProof.Rows.envOfC "size_of" (defScope s_size_of) s.heap.objs.size f cdv))) :
    DSs J (cxOf CX0 P w K mg base ["readers", "body", "deep", "found", "item", "more"] "size_of" (defScope s_size_of) f cdv A outer s H E).nox (defBody s_size_of) (t_size_of sp_size_of_item) :=
  have sc := sc_size_of
  (dss_cons (ds_if (dt_w (dw_or (dt_not (dt_truth (de_callB call_dIsi rfl T.b_isinstance bv_isinstance (da_cons (de_var (i := 1)) (da_cons (de_bltn rfl T.b_tuple bv_tuple) da_nil))))) (dw_or1 (dt_cmp op_dGt (de_var (i := 2)) (de_gl T.c_MOST_DEEP rfl))))) (dss_one (ds_ret de_non)) dss_nil) (dss_cons (ds_set (i := 3) sc.nd rfl (by first | exact Or.inl rfl | exact Or.inr rfl) de_int) (dss_cons (ds_for PassesOwn.never rfl (di_seq (de_var (i := 1))) (dtg_name (i := 4) sc.nd rfl (by first | exact Or.inl rfl | exact Or.inr rfl)) (dss_cons (ds_set (i := 5) sc.nd rfl (by first | exact Or.inl rfl | exact Or.inr rfl) (de_callG G_size_of_item hr rfl (da_cons (de_var (i := 0)) (da_cons (de_var (i := 4)) (da_cons (de_var (i := 2)) da_nil))) (Nat.le_refl _))) (dss_cons (ds_if (dt_cmp op_dIsN (de_var (i := 5)) de_non) (dss_one (ds_ret de_non)) dss_nil) (dss_one (ds_set (i := 3) sc.nd rfl (by first | exact Or.inl rfl | exact Or.inr rfl) (de_op op_dAdd (de_var (i := 3)) (de_var (i := 5)))))))) (dss_one (ds_ret (de_var (i := 3)))))))
theorem g_size_of {sp_size_of_item : SpD} {sp : SpD} (T : Txt K mg) (D : Dn K mg "size_of" s_size_of ["readers", "body", "deep"]) (G_size_of_item : FnG P w K mg base k "size_of_item" ["readers", "item", "deep"] sp_size_of_item) (len : ∀ ds M Q E, sp ds M Q E → ds.length = 3)
    (hq : ∀ ds M Φ Ψ, sp ds M Φ Ψ → t_size_of sp_size_of_item (endD M Φ) (startD n_size_of ds) M) : FnG P w K mg base (k + 1) "size_of" ["readers", "body", "deep"] sp :=
  D.fnG (t_size_of sp_size_of_item) sc_size_of len (fun J f cdv A outer s H E hr => d_size_of T G_size_of_item J f cdv A outer s H E hr) hq

/-! marks_in -/
abbrev s_marks_in : Stmt := top 22
abbrev n_marks_in : List Str := ["body", "found", "item", "part"]
theorem sc_marks_in : FnScope ["body", "found", "item", "part"] ["body"] (defScope s_marks_in) := ⟨rfl, rfl, rfl, by decide +kernel, rfl, by decide +kernel, by decide +kernel⟩
def t_marks_in (sp_inner sp_marks_in : SpD) : TSd := (tdSeq (tdSet 1 (tdLst tdNil)) (tdSeq (tdFor (tdSeqI (tdVar 0)) (.one 2) (tdSeq (tdIfS (tdAnd (tdTest (tdOp dIn (tdOp dIxS (tdVar 2) (tdC (.int 0))) (tdTup (tdCons (tdC (.str (q "until"))) (tdCons (tdC (.str (q "if"))) (tdCons (tdC (.str (q "while"))) tdNil)))))) (tdTest (tdOp dNe (tdOp dIxS (tdVar 2) (tdC (.int 2))) (tdC (.str (q "")))))) (tdSet 1 (tdOp dAdd (tdVar 1) (tdLst (tdCons (tdOp dIxS (tdVar 2) (tdC (.int 2))) tdNil)))) tdNext) (tdFor (tdSeqI (tdCall sp_inner (tdCons (tdVar 2) tdNil))) (.one 3) (tdSet 1 (tdOp dAdd (tdVar 1) (tdCall sp_marks_in (tdCons (tdVar 3) tdNil))))))) (tdRet (tdSortSet (tdVar 1)))))
theorem d_marks_in {sp_inner sp_marks_in : SpD} (T : Txt K mg) (G_inner : FnG P w K mg base k "inner" ["item"] sp_inner) (G_marks_in : FnG P w K mg base k "marks_in" ["body"] sp_marks_in) (J : Jc) (f : Addr) (cdv : Value) (A : Around) (outer : List Env) (s : Shared) (H : Hp) (E : XK) (hr : Room k (A.deeper (PyProof.Rows.envOfC "marks_in" (defScope s_marks_in) s.heap.objs.size f cdv))) :
    DSs J (cxOf CX0 P w K mg base ["body", "found", "item", "part"] "marks_in" (defScope s_marks_in) f cdv A outer s H E).nox (defBody s_marks_in) (t_marks_in sp_inner sp_marks_in) :=
  have sc := sc_marks_in
  (dss_cons (ds_set (i := 1) sc.nd rfl (by first | exact Or.inl rfl | exact Or.inr rfl) (de_lst da_nil)) (dss_cons (ds_for PassesOwn.never rfl (di_seq (de_var (i := 0))) (dtg_name (i := 2) sc.nd rfl (by first | exact Or.inl rfl | exact Or.inr rfl)) (dss_cons (ds_if (dt_w (dw_and (dt_cmp (op_dIn (hu67 hr)) (de_ix (de_var (i := 2)) de_int) (de_tup (da_cons (de_str (s := "until")) (da_cons (de_str (s := "if")) (da_cons (de_str (s := "while")) da_nil)))) (by rfl)) (dw_and1 (dt_cmp (op_dNe (hu66 hr)) (de_ix (de_var (i := 2)) de_int) (de_str (s := "")))))) (dss_one (ds_set (i := 1) sc.nd rfl (by first | exact Or.inl rfl | exact Or.inr rfl) (de_op op_dAdd (de_var (i := 1)) (de_lst (da_cons (de_ix (de_var (i := 2)) de_int) da_nil))))) dss_nil) (dss_one (ds_for PassesOwn.never rfl (di_seq (de_callG G_inner hr rfl (da_cons (de_var (i := 2)) da_nil) (Nat.le_refl _))) (dtg_name (i := 3) sc.nd rfl (by first | exact Or.inl rfl | exact Or.inr rfl)) (dss_one (ds_set (i := 1) sc.nd rfl (by first | exact Or.inl rfl | exact Or.inr rfl) (de_op op_dAdd (de_var (i := 1)) (de_callG G_marks_in hr rfl (da_cons (de_var (i := 3)) da_nil) (Nat.le_refl _))))))))) (dss_one (ds_ret (de_sortSet rfl rfl T.b_sorted rfl T.b_set (de_var (i := 1)))))))
theorem g_marks_in {sp_inner sp_marks_in : SpD} {sp : SpD} (T : Txt K mg) (D : Dn K mg "marks_in" s_marks_in ["body"]) (G_inner : FnG P w K mg base k "inner" ["item"] sp_inner) (G_marks_in : FnG P w K mg base k "marks_in" ["body"] sp_marks_in) (len : ∀ ds M Q E, sp ds M Q E → ds.length = 1)
    (hq : ∀ ds M Φ Ψ, sp ds M Φ Ψ → t_marks_in sp_inner sp_marks_in (endD M Φ) (startD n_marks_in ds) M) : FnG P w K mg base (k + 1) "marks_in" ["body"] sp :=
  D.fnG (t_marks_in sp_inner sp_marks_in) sc_marks_in len (fun J f cdv A outer s H E hr => d_marks_in T G_inner G_marks_in J f cdv A outer s H E hr) hq

/-! is_program -/
abbrev s_is_program : Stmt := top 23
abbrev n_is_program : List Str := ["value", "found"]
theorem sc_is_program : FnScope ["value", "found"] ["value"] (defScope s_is_program) := ⟨rfl, rfl, rfl, by decide +kernel, rfl, by decide +kernel, by decide +kernel⟩
def t_is_program (sp_are_readers sp_size_of sp_marks_in : SpD) : TSd := (tdSeq (tdIfS (tdOr (tdNot (tdTruth (tdCB dIsi (tdCons (tdVar 0) (tdCons (tdC (.ty "tuple")) tdNil))))) (tdOr (tdTest (tdOp dNe (tdCB dLen (tdCons (tdVar 0) tdNil)) (tdC (.int 2)))) (tdNot (tdTruth (tdCall sp_are_readers (tdCons (tdOp dIxS (tdVar 0) (tdC (.int 0))) tdNil)))))) (tdRet (tdC (.bl false))) tdNext) (tdSeq (tdSet 1 (tdCall sp_size_of (tdCons (tdOp dIxS (tdVar 0) (tdC (.int 0))) (tdCons (tdOp dIxS (tdVar 0) (tdC (.int 1))) (tdCons (tdC (.int 1)) tdNil))))) (tdRet (tdAndV (tdOp dNotN (tdVar 1) (tdC .non)) (tdAndV (tdOp dLe (tdVar 1) (tdC (.int 40))) (tdOp dLe (tdCB dLen (tdCons (tdCall sp_marks_in (tdCons (tdOp dIxS (tdVar 0) (tdC (.int 1))) tdNil)) tdNil)) (tdC (.int 3))))))))
theorem d_is_program {sp_are_readers sp_size_of sp_marks_in : SpD} (T : Txt K mg) (G_are_readers : FnG P w K mg base k "are_readers" ["value"] sp_are_readers) (G_size_of : FnG P w K mg base k "size_of" ["readers", "body", "deep"] sp_size_of) (G_marks_in : FnG P w K mg base k "marks_in" ["body"] sp_marks_in) (J : Jc) (f : Addr) (cdv : Value) (A : Around) (outer : List Env) (s : Shared) (H : Hp) (E : XK) (hr : Room k (A.deeper (PyProof.Rows.envOfC "is_program" (defScope s_is_program) s.heap.objs.size f cdv))) :
    DSs J (cxOf CX0 P w K mg base ["value", "found"] "is_program" (defScope s_is_program) f cdv A outer s H E).nox (defBody s_is_program) (t_is_program sp_are_readers sp_size_of sp_marks_in) :=
  have sc := sc_is_program
  (dss_cons (ds_if (dt_w (dw_or (dt_not (dt_truth (de_callB call_dIsi rfl T.b_isinstance bv_isinstance (da_cons (de_var (i := 0)) (da_cons (de_bltn rfl T.b_tuple bv_tuple) da_nil))))) (dw_or (dt_cmp (op_dNe (hu66 hr)) (de_callB call_dLen rfl T.b_len bv_len (da_cons (de_var (i := 0)) da_nil)) de_int) (dw_or1 (dt_not (dt_truth (de_callG G_are_readers hr rfl (da_cons (de_ix (de_var (i := 0)) de_int) da_nil) (Nat.le_refl _)))))))) (dss_one (ds_ret de_bl)) dss_nil) (dss_cons (ds_set (i := 1) sc.nd rfl (by first | exact Or.inl rfl | exact Or.inr rfl) (de_callG G_size_of hr rfl (da_cons (de_ix (de_var (i := 0)) de_int) (da_cons (de_ix (de_var (i := 0)) de_int) (da_cons de_int da_nil))) (Nat.le_refl _))) (dss_one (ds_ret (de_and (de_cmp op_dNotN (de_var (i := 1)) de_non) (de_and (de_cmp op_dLe (de_var (i := 1)) (de_gl T.c_MOST_STEPS rfl)) (de_one (de_cmp op_dLe (de_callB call_dLen rfl T.b_len bv_len (da_cons (de_callG G_marks_in hr rfl (da_cons (de_ix (de_var (i := 0)) de_int) da_nil) (Nat.le_refl _)) da_nil)) (de_gl T.c_MOST_MARKS rfl)))))))))
theorem g_is_program {sp_are_readers sp_size_of sp_marks_in : SpD} {sp : SpD} (T : Txt K mg) (D : Dn K mg "is_program" s_is_program ["value"]) (G_are_readers : FnG P w K mg base k "are_readers" ["value"] sp_are_readers) (G_size_of : FnG P w K mg base k "size_of" ["readers", "body", "deep"] sp_size_of) (G_marks_in : FnG P w K mg base k "marks_in" ["body"] sp_marks_in) (len : ∀ ds M Q E, sp ds M Q E → ds.length = 1)
    (hq : ∀ ds M Φ Ψ, sp ds M Φ Ψ → t_is_program sp_are_readers sp_size_of sp_marks_in (endD M Φ) (startD n_is_program ds) M) : FnG P w K mg base (k + 1) "is_program" ["value"] sp :=
  D.fnG (t_is_program sp_are_readers sp_size_of sp_marks_in) sc_is_program len (fun J f cdv A outer s H E hr => d_is_program T G_are_readers G_size_of G_marks_in J f cdv A outer s H E hr) hq

/-! item_text -/
abbrev s_item_text : Stmt := top 25
abbrev n_item_text : List Str := ["item", "head", "words", "part"]
theorem sc_item_text : FnScope ["item", "head", "words", "part"] ["item"] (defScope s_item_text) := ⟨rfl, rfl, rfl, by decide +kernel, rfl, by decide +kernel, by decide +kernel⟩
def t_item_text (sp_inner sp_body_text : SpD) : TSd := (tdSeq (tdSet 1 (tdSl (tdVar 0) tdNoPart (tdPart (tdOp dSub (tdCB dLen (tdCons (tdVar 0) tdNil)) (tdCB dLen (tdCons (tdCall sp_inner (tdCons (tdVar 0) tdNil)) tdNil)))))) (tdSeq (tdSet 2 (tdBM "str" dJoin (tdC (.str (q " "))) (tdCons (tdLc (tdSeqI (tdVar 1)) (.one 3) tdYes (tdIf (tdTest (tdOp dEq (tdVar 3) (tdC (.str (q ""))))) (tdC (.str (q "end"))) (tdCB dStrC (tdCons (tdVar 3) tdNil))) [3]) tdNil))) (tdSeq (tdIfS (tdTest (tdOp dEq (tdCall sp_inner (tdCons (tdVar 0) tdNil)) (tdTup tdNil))) (tdRet (tdVar 2)) tdNext) (tdRet (tdOp dAdd (tdOp dAdd (tdOp dAdd (tdVar 2) (tdC (.str (q " (")))) (tdBM "str" dJoin (tdC (.str (q " | "))) (tdCons (tdLc (tdSeqI (tdCall sp_inner (tdCons (tdVar 0) tdNil))) (.one 3) tdYes (tdCall sp_body_text (tdCons (tdVar 3) tdNil)) [3]) tdNil))) (tdC (.str (q ")"))))))))
theorem d_item_text {sp_inner sp_body_text : SpD} (T : Txt K mg) (G_inner : FnG P w K mg base k "inner" ["item"] sp_inner) (G_body_text : FnG P w K mg base k "body_text" ["body"] sp_body_text) (J : Jc) (f : Addr) (cdv : Value) (A : Around) (outer : List Env) (s : Shared) (H : Hp) (E : XK) (hr : Room k (A.deeper (PyProof.Rows.envOfC "item_text" (defScope s_item_text) s.heap.objs.size f cdv))) :
    DSs J (cxOf CX0 P w K mg base ["item", "head", "words", "part"] "item_text" (defScope s_item_text) f cdv A outer s H E).nox (defBody s_item_text) (t_item_text sp_inner sp_body_text) :=
  have sc := sc_item_text
  (dss_cons (ds_set (i := 1) sc.nd rfl (by first | exact Or.inl rfl | exact Or.inr rfl) (de_slice (de_var (i := 0)) do_none (do_some (de_op op_dSub (de_callB call_dLen rfl T.b_len bv_len (da_cons (de_var (i := 0)) da_nil)) (de_callB call_dLen rfl T.b_len bv_len (da_cons (de_callG G_inner hr rfl (da_cons (de_var (i := 0)) da_nil) (Nat.le_refl _)) da_nil)))))) (dss_cons (ds_set (i := 2) sc.nd rfl (by first | exact Or.inl rfl | exact Or.inr rfl) (de_bm PySem.F.plainAttrs_str PySem.F.slot_str_join PySem.F.type_str_join mt_dJoin (de_str (s := " ")) (da_cons (de_lcB false (own := [("part", 3)]) rfl sc.nd (di_seq (de_var (i := 1))) (blkOk_by (N := n_item_text) (sc := defScope s_item_text) (by decide +kernel)) (fun _ _ _ _ _ => (dtg_name (i := 3) sc.nd rfl (by first | exact Or.inl rfl | exact Or.inr rfl))) (fun _ _ _ _ _ => dts_nil) (fun _ _ _ _ _ => (de_if (dt_cmp (op_dEq (hu66 hr)) (de_var (i := 3)) (de_str (s := ""))) (de_str (s := "end")) (de_callTy call_dStr rfl T.b_str bv_str (da_cons (de_var (i := 3)) da_nil))))) da_nil))) (dss_cons (ds_if (dt_cmp (op_dEq (hu66 hr)) (de_callG G_inner hr rfl (da_cons (de_var (i := 0)) da_nil) (Nat.le_refl _)) (de_tup da_nil)) (dss_one (ds_ret (de_var (i := 2)))) dss_nil) (dss_one (ds_ret (de_op op_dAdd (de_op op_dAdd (de_op op_dAdd (de_var (i := 2)) (de_str (s := " ("))) (de_bm PySem.F.plainAttrs_str PySem.F.slot_str_join PySem.F.type_str_join mt_dJoin (de_str (s := " | ")) (da_cons (de_lcB false (own := [("part", 3)]) rfl sc.nd (di_seq (de_callG G_inner hr rfl (da_cons (de_var (i := 0)) da_nil) (Nat.le_refl _))) (blkOk_by (N := n_item_text) (sc := defScope s_item_text) (by decide +kernel)) (fun _ _ _ _ _ => (dtg_name (i := 3) sc.nd rfl (by first | exact Or.inl rfl | exact Or.inr rfl))) (fun _ _ _ _ _ => dts_nil) (fun _ _ _ _ _ => (de_callG G_body_text hr rfl (da_cons (de_var (i := 3)) da_nil) (Nat.le_refl _)))) da_nil))) (de_str (s := ")"))))))))
theorem g_item_text {sp_inner sp_body_text : SpD} {sp : SpD} (T : Txt K mg) (D : Dn K mg "item_text" s_item_text ["item"]) (G_inner : FnG P w K mg base k "inner" ["item"] sp_inner) (G_body_text : FnG P w K mg base k "body_text" ["body"] sp_body_text) (len : ∀ ds M Q E, sp ds M Q E → ds.length = 1)
    (hq : ∀ ds M Φ Ψ, sp ds M Φ Ψ → t_item_text sp_inner sp_body_text (endD M Φ) (startD n_item_text ds) M) : FnG P w K mg base (k + 1) "item_text" ["item"] sp :=
  D.fnG (t_item_text sp_inner sp_body_text) sc_item_text len (fun J f cdv A outer s H E hr => d_item_text T G_inner G_body_text J f cdv A outer s H E hr) hq

/-! body_text -/
abbrev s_body_text : Stmt := top 26
abbrev n_body_text : List Str := ["body", "item"]
theorem sc_body_text : FnScope ["body", "item"] ["body"] (defScope s_body_text) := ⟨rfl, rfl, rfl, by decide +kernel, rfl, by decide +kernel, by decide +kernel⟩
def t_body_text (sp_item_text : SpD) : TSd := (tdRet (tdBM "str" dJoin (tdC (.str (q "; "))) (tdCons (tdLc (tdSeqI (tdVar 0)) (.one 1) tdYes (tdCall sp_item_text (tdCons (tdVar 1) tdNil)) [1]) tdNil)))
theorem d_body_text {sp_item_text : SpD} (T : Txt K mg) (G_item_text : FnG P w K mg base k "item_text" ["item"] sp_item_text) (J : Jc) (f : Addr) (cdv : Value) (A : Around) (outer : List Env) (s : Shared) (H : Hp) (E : XK) (hr : Room k (A.deeper (PyProof.Rows.envOfC "body_text" (defScope s_body_text) s.heap.objs.size f cdv))) :
    DSs J (cxOf CX0 P w K mg base ["body", "item"] "body_text" (defScope s_body_text) f cdv A outer s H E).nox (defBody s_body_text) (t_body_text sp_item_text) :=
  have sc := sc_body_text
  (dss_one (ds_ret (de_bm PySem.F.plainAttrs_str PySem.F.slot_str_join PySem.F.type_str_join mt_dJoin (de_str (s := "; ")) (da_cons (de_lcB false (own := [("item", 1)]) rfl sc.nd (di_seq (de_var (i := 0))) (blkOk_by (N := n_body_text) (sc := defScope s_body_text) (by decide +kernel)) (fun _ _ _ _ _ => (dtg_name (i := 1) sc.nd rfl (by first | exact Or.inl rfl | exact Or.inr rfl))) (fun _ _ _ _ _ => dts_nil) (fun _ _ _ _ _ => (de_callG G_item_text hr rfl (da_cons (de_var (i := 1)) da_nil) (Nat.le_refl _)))) da_nil))))
theorem g_body_text {sp_item_text : SpD} {sp : SpD} (T : Txt K mg) (D : Dn K mg "body_text" s_body_text ["body"]) (G_item_text : FnG P w K mg base k "item_text" ["item"] sp_item_text) (len : ∀ ds M Q E, sp ds M Q E → ds.length = 1)
    (hq : ∀ ds M Φ Ψ, sp ds M Φ Ψ → t_body_text sp_item_text (endD M Φ) (startD n_body_text ds) M) : FnG P w K mg base (k + 1) "body_text" ["body"] sp :=
  D.fnG (t_body_text sp_item_text) sc_body_text len (fun J f cdv A outer s H E hr => d_body_text T G_item_text J f cdv A outer s H E hr) hq

/-! text_of -/
abbrev s_text_of : Stmt := top 27
abbrev n_text_of : List Str := ["program", "name", "mode"]
theorem sc_text_of : FnScope ["program", "name", "mode"] ["program"] (defScope s_text_of) := ⟨rfl, rfl, rfl, by decide +kernel, rfl, by decide +kernel, by decide +kernel⟩
def t_text_of (sp_body_text : SpD) : TSd := (tdRet (tdOp dAdd (tdOp dAdd (tdBM "str" dJoin (tdC (.str (q ", "))) (tdCons (tdLc (tdSeqI (tdOp dIxS (tdVar 0) (tdC (.int 0)))) (.many [1, 2]) tdYes (tdOp dAdd (tdOp dAdd (tdVar 1) (tdC (.str (q " ")))) (tdVar 2)) [1, 2]) tdNil)) (tdC (.str (q "\n")))) (tdCall sp_body_text (tdCons (tdOp dIxS (tdVar 0) (tdC (.int 1))) tdNil))))
theorem d_text_of {sp_body_text : SpD} (T : Txt K mg) (G_body_text : FnG P w K mg base k "body_text" ["body"] sp_body_text) (J : Jc) (f : Addr) (cdv : Value) (A : Around) (outer : List Env) (s : Shared) (H : Hp) (E : XK) (hr : Room k (A.deeper (PyProof.Rows.envOfC "text_of" (defScope s_text_of) s.heap.objs.size f cdv))) :
    DSs J (cxOf CX0 P w K mg base ["program", "name", "mode"] "text_of" (defScope s_text_of) f cdv A outer s H E).nox (defBody s_text_of) (t_text_of sp_body_text) :=
  have sc := sc_text_of
  (dss_one (ds_ret (de_op op_dAdd (de_op op_dAdd (de_bm PySem.F.plainAttrs_str PySem.F.slot_str_join PySem.F.type_str_join mt_dJoin (de_str (s := ", ")) (da_cons (de_lcB false (own := [("name", 1), ("mode", 2)]) rfl sc.nd (di_seq (de_ix (de_var (i := 0)) de_int)) (blkOk_by (N := n_text_of) (sc := defScope s_text_of) (by decide +kernel)) (fun _ _ _ _ _ => (dtg_tup (is := [1, 2]) rfl (pgs_cons (pg_name (i := 1) sc.nd rfl (by first | exact Or.inl rfl | exact Or.inr rfl)) (pgs_cons (pg_name (i := 2) sc.nd rfl (by first | exact Or.inl rfl | exact Or.inr rfl)) pgs_nil)))) (fun _ _ _ _ _ => dts_nil) (fun _ _ _ _ _ => (de_op op_dAdd (de_op op_dAdd (de_var (i := 1)) (de_str (s := " "))) (de_var (i := 2))))) da_nil)) (de_str (s := "\n"))) (de_callG G_body_text hr rfl (da_cons (de_ix (de_var (i := 0)) de_int) da_nil) (Nat.le_refl _)))))
theorem g_text_of {sp_body_text : SpD} {sp : SpD} (T : Txt K mg) (D : Dn K mg "text_of" s_text_of ["program"]) (G_body_text : FnG P w K mg base k "body_text" ["body"] sp_body_text) (len : ∀ ds M Q E, sp ds M Q E → ds.length = 1)
    (hq : ∀ ds M Φ Ψ, sp ds M Φ Ψ → t_text_of sp_body_text (endD M Φ) (startD n_text_of ds) M) : FnG P w K mg base (k + 1) "text_of" ["program"] sp :=
  D.fnG (t_text_of sp_body_text) sc_text_of len (fun J f cdv A outer s H E hr => d_text_of T G_body_text J f cdv A outer s H E hr) hq

/-! cut_up -/
abbrev s_cut_up : Stmt := top 28
abbrev n_cut_up : List Str := ["text", "sign", "found", "deep", "begin", "at"]
theorem sc_cut_up : FnScope ["text", "sign", "found", "deep", "begin", "at"] ["text", "sign"] (defScope s_cut_up) := ⟨rfl, rfl, rfl, by decide +kernel, rfl, by decide +kernel, by decide +kernel⟩
def t_cut_up : TSd := (tdSeq (tdAsg (tdTup (tdCons (tdLstM tdNil) (tdCons (tdC (.int 0)) (tdCons (tdC (.int 0)) (tdCons (tdC (.int 0)) tdNil))))) (.many [2, 3, 4, 5])) (tdSeq (tdWhile (tdTest (tdOp dLt (tdVar 5) (tdCB dLen (tdCons (tdVar 0) tdNil)))) (tdSeq (tdAug 3 (tdOp dSub (tdCB dIntC (tdCons (tdOp dEq (tdOp dIxS (tdVar 0) (tdVar 5)) (tdC (.str (q "(")))) tdNil)) (tdCB dIntC (tdCons (tdOp dEq (tdOp dIxS (tdVar 0) (tdVar 5)) (tdC (.str (q ")")))) tdNil))) (fun i j => i + j)) (tdIfS (tdAnd (tdTest (tdOp dEq (tdVar 3) (tdC (.int 0)))) (tdTest (tdOp dEq (tdSl (tdVar 0) (tdPart (tdVar 5)) (tdPart (tdOp dAdd (tdVar 5) (tdCB dLen (tdCons (tdVar 1) tdNil))))) (tdVar 1)))) (tdSeq (tdDrop (tdBM "list" dAppend (tdVar 2) (tdCons (tdSl (tdVar 0) (tdPart (tdVar 4)) (tdPart (tdVar 5))) tdNil))) (tdSeq (tdSet 4 (tdOp dAdd (tdVar 5) (tdCB dLen (tdCons (tdVar 1) tdNil)))) (tdSet 5 (tdVar 4)))) (tdAug 5 (tdC (.int 1)) (fun i j => i + j))))) (tdRet (tdOp dAdd (tdVar 2) (tdLst (tdCons (tdSl (tdVar 0) (tdPart (tdVar 4)) tdNoPart) tdNil))))))
theorem d_cut_up (T : Txt K mg) (J : Jc) (f : Addr) (cdv : Value) (A : Around) (outer : List Env) (s : Shared) (H : Hp) (E : XK) (hr : Room k (A.deeper (PyProof.Rows.envOfC "cut_up" (defScope s_cut_up) s.heap.objs.size f cdv))) :
    DSs J (cxOf CX0 P w K mg base ["text", "sign", "found", "deep", "begin", "at"] "cut_up" (defScope s_cut_up) f cdv A outer s H E).nox (defBody s_cut_up) (t_cut_up) :=
  have sc := sc_cut_up
  (dss_cons (ds_asg (de_tup (da_cons (de_lstM da_nil) (da_cons de_int (da_cons de_int (da_cons de_int da_nil))))) (dtg_tup (is := [2, 3, 4, 5]) rfl (pgs_cons (pg_name (i := 2) sc.nd rfl (by first | exact Or.inl rfl | exact Or.inr rfl)) (pgs_cons (pg_name (i := 3) sc.nd rfl (by first | exact Or.inl rfl | exact Or.inr rfl)) (pgs_cons (pg_name (i := 4) sc.nd rfl (by first | exact Or.inl rfl | exact Or.inr rfl)) (pgs_cons (pg_name (i := 5) sc.nd rfl (by first | exact Or.inl rfl | exact Or.inr rfl)) pgs_nil)))))) (dss_cons (ds_while PassesOwn.never (dt_cmp op_dLt (de_var (i := 5)) (de_callB call_dLen rfl T.b_len bv_len (da_cons (de_var (i := 0)) da_nil))) (dss_cons (ds_aug (k := 3) sc.nd rfl (by first | exact Or.inl rfl | exact Or.inr rfl) (de_op op_dSub (de_callTy call_dInt rfl T.b_int bv_int (da_cons (de_cmp (op_dEq (hu66 hr)) (de_ix (de_var (i := 0)) (de_var (i := 5))) (de_str (s := "("))) da_nil)) (de_callTy call_dInt rfl T.b_int bv_int (da_cons (de_cmp (op_dEq (hu66 hr)) (de_ix (de_var (i := 0)) (de_var (i := 5))) (de_str (s := ")"))) da_nil))) ip_add) (dss_one (ds_if (dt_w (dw_and (dt_cmp (op_dEq (hu66 hr)) (de_var (i := 3)) de_int) (dw_and1 (dt_cmp (op_dEq (hu66 hr)) (de_slice (de_var (i := 0)) (do_some (de_var (i := 5))) (do_some (de_op op_dAdd (de_var (i := 5)) (de_callB call_dLen rfl T.b_len bv_len (da_cons (de_var (i := 1)) da_nil))))) (de_var (i := 1)))))) (dss_cons (ds_expr (de_bm PySem.F.plainAttrs_list PySem.F.slot_list_append PySem.F.type_list_append mt_dAppend (de_var (i := 2)) (da_cons (de_slice (de_var (i := 0)) (do_some (de_var (i := 4))) (do_some (de_var (i := 5)))) da_nil))) (dss_cons (ds_set (i := 4) sc.nd rfl (by first | exact Or.inl rfl | exact Or.inr rfl) (de_op op_dAdd (de_var (i := 5)) (de_callB call_dLen rfl T.b_len bv_len (da_cons (de_var (i := 1)) da_nil)))) (dss_one (ds_set (i := 5) sc.nd rfl (by first | exact Or.inl rfl | exact Or.inr rfl) (de_var (i := 4)))))) (dss_one (ds_aug (k := 5) sc.nd rfl (by first | exact Or.inl rfl | exact Or.inr rfl) de_int ip_add)))))) (dss_one (ds_ret (de_op op_dAdd (de_var (i := 2)) (de_lst (da_cons (de_slice (de_var (i := 0)) (do_some (de_var (i := 4))) do_none) da_nil)))))))
theorem g_cut_up {sp : SpD} (T : Txt K mg) (D : Dn K mg "cut_up" s_cut_up ["text", "sign"]) (len : ∀ ds M Q E, sp ds M Q E → ds.length = 2)
    (hq : ∀ ds M Φ Ψ, sp ds M Φ Ψ → t_cut_up (endD M Φ) (startD n_cut_up ds) M) : FnG P w K mg base (k + 1) "cut_up" ["text", "sign"] sp :=
  D.fnG (t_cut_up) sc_cut_up len (fun J f cdv A outer s H E hr => d_cut_up T J f cdv A outer s H E hr) hq

/-! head_in -/
abbrev s_head_in : Stmt := top 29
abbrev n_head_in : List Str := ["text", "words", "word"]
theorem sc_head_in : FnScope ["text", "words", "word"] ["text"] (defScope s_head_in) := ⟨rfl, rfl, rfl, by decide +kernel, rfl, by decide +kernel, by decide +kernel⟩
def t_head_in : TSd := (tdSeq (tdSet 1 (tdBM "str" dSplit (tdVar 0) (tdCons (tdC (.str (q " "))) tdNil))) (tdSeq (tdIfS (tdTest (tdOp dEq (tdOp dIxS (tdVar 1) (tdC (.int 0))) (tdC (.str (q "take"))))) (tdRet (tdCB dTupC (tdCons (tdLc (tdSeqI (tdVar 1)) (.one 2) tdYes (tdIf (tdTest (tdOp dIn (tdVar 2) (tdTup (tdCons (tdC (.str (q "1"))) (tdCons (tdC (.str (q "2"))) (tdCons (tdC (.str (q "3"))) tdNil)))))) (tdCB dIntS (tdCons (tdVar 2) tdNil)) (tdVar 2)) [2]) tdNil))) tdNext) (tdSeq (tdIfS (tdAnd (tdTest (tdOp dIn (tdOp dIxS (tdVar 1) (tdC (.int 0))) (tdTup (tdCons (tdC (.str (q "if"))) (tdCons (tdC (.str (q "while"))) tdNil))))) (tdAnd (tdTest (tdOp dEq (tdCB dLen (tdCons (tdVar 1) tdNil)) (tdC (.int 3)))) (tdTest (tdOp dEq (tdOp dIxS (tdVar 1) (tdC (.int 2))) (tdC (.str (q "end"))))))) (tdRet (tdTup (tdCons (tdOp dIxS (tdVar 1) (tdC (.int 0))) (tdCons (tdOp dIxS (tdVar 1) (tdC (.int 1))) (tdCons (tdC (.str (q ""))) tdNil))))) tdNext) (tdRet (tdCB dTupC (tdCons (tdVar 1) tdNil))))))
theorem d_head_in (T : Txt K mg) (J : Jc) (f : Addr) (cdv : Value) (A : Around) (outer : List Env) (s : Shared) (H : Hp) (E : XK) (hr : Room k (A.deeper (PyProof.Rows.envOfC "head_in" (defScope s_head_in) s.heap.objs.size f cdv))) :
    DSs J (cxOf CX0 P w K mg base ["text", "words", "word"] "head_in" (defScope s_head_in) f cdv A outer s H E).nox (defBody s_head_in) (t_head_in) :=
  have sc := sc_head_in
  (dss_cons (ds_set (i := 1) sc.nd rfl (by first | exact Or.inl rfl | exact Or.inr rfl) (de_bm PySem.F.plainAttrs_str PySem.F.slot_str_split PySem.F.type_str_split mt_dSplit (de_var (i := 0)) (da_cons (de_str (s := " ")) da_nil))) (dss_cons (ds_if (dt_cmp (op_dEq (hu66 hr)) (de_ix (de_var (i := 1)) de_int) (de_str (s := "take"))) (dss_one (ds_ret (de_callTy call_dTup rfl T.b_tuple bv_tuple (da_cons (de_lcB false (own := [("word", 2)]) rfl sc.nd (di_seq (de_var (i := 1))) (blkOk_by (N := n_head_in) (sc := defScope s_head_in) (by decide +kernel)) (fun _ _ _ _ _ => (dtg_name (i := 2) sc.nd rfl (by first | exact Or.inl rfl | exact Or.inr rfl))) (fun _ _ _ _ _ => dts_nil) (fun _ _ _ _ _ => (de_if (dt_cmp (op_dIn (hu67 hr)) (de_var (i := 2)) (de_tup (da_cons (de_str (s := "1")) (da_cons (de_str (s := "2")) (da_cons (de_str (s := "3")) da_nil)))) (by rfl)) (de_callTy call_dIntS rfl T.b_int bv_int (da_cons (de_var (i := 2)) da_nil)) (de_var (i := 2))))) da_nil)))) dss_nil) (dss_cons (ds_if (dt_w (dw_and (dt_cmp (op_dIn (hu67 hr)) (de_ix (de_var (i := 1)) de_int) (de_tup (da_cons (de_str (s := "if")) (da_cons (de_str (s := "while")) da_nil))) (by rfl)) (dw_and (dt_cmp (op_dEq (hu66 hr)) (de_callB call_dLen rfl T.b_len bv_len (da_cons (de_var (i := 1)) da_nil)) de_int) (dw_and1 (dt_cmp (op_dEq (hu66 hr)) (de_ix (de_var (i := 1)) de_int) (de_str (s := "end"))))))) (dss_one (ds_ret (de_tup (da_cons (de_ix (de_var (i := 1)) de_int) (da_cons (de_ix (de_var (i := 1)) de_int) (da_cons (de_str (s := "")) da_nil)))))) dss_nil) (dss_one (ds_ret (de_callTy call_dTup rfl T.b_tuple bv_tuple (da_cons (de_var (i := 1)) da_nil)))))))
theorem g_head_in {sp : SpD} (T : Txt K mg) (D : Dn K mg "head_in" s_head_in ["text"]) (len : ∀ ds M Q E, sp ds M Q E → ds.length = 1)
    (hq : ∀ ds M Φ Ψ, sp ds M Φ Ψ → t_head_in (endD M Φ) (startD n_head_in ds) M) : FnG P w K mg base (k + 1) "head_in" ["text"] sp :=
  D.fnG (t_head_in) sc_head_in len (fun J f cdv A outer s H E hr => d_head_in T J f cdv A outer s H E hr) hq

/-! item_in -/
abbrev s_item_in : Stmt := top 30
abbrev n_item_in : List Str := ["text", "deep", "place", "rest", "part"]
theorem sc_item_in : FnScope ["text", "deep", "place", "rest", "part"] ["text", "deep"] (defScope s_item_in) := ⟨rfl, rfl, rfl, by decide +kernel, rfl, by decide +kernel, by decide +kernel⟩
def t_item_in (sp_head_in sp_cut_up sp_body_in : SpD) : TSd := (tdSeq (tdSet 2 (tdBM "str" dFind (tdVar 0) (tdCons (tdC (.str (q " ("))) tdNil))) (tdSeq (tdIfS (tdOr (tdTest (tdOp dLt (tdVar 2) (tdC (.int 0)))) (tdTest (tdOp dNe (tdSl (tdVar 0) (tdPart (tdNeg (tdC (.int 1)))) tdNoPart) (tdC (.str (q ")")))))) (tdRet (tdCall sp_head_in (tdCons (tdVar 0) tdNil))) tdNext) (tdSeq (tdSet 3 (tdCall sp_cut_up (tdCons (tdSl (tdVar 0) (tdPart (tdOp dAdd (tdVar 2) (tdC (.int 2)))) (tdPart (tdNeg (tdC (.int 1))))) (tdCons (tdC (.str (q " | "))) tdNil)))) (tdRet (tdOp dAdd (tdCall sp_head_in (tdCons (tdSl (tdVar 0) tdNoPart (tdPart (tdVar 2))) tdNil)) (tdCB dTupC (tdCons (tdLc (tdSeqI (tdVar 3)) (.one 4) tdYes (tdCall sp_body_in (tdCons (tdVar 4) (tdCons (tdOp dAdd (tdVar 1) (tdC (.int 1))) tdNil))) [4]) tdNil)))))))
theorem d_item_in {sp_head_in sp_cut_up sp_body_in : SpD} (T : Txt K mg) (G_head_in : FnG P w K mg base k "head_in" ["text"] sp_head_in) (G_cut_up : FnG P w K mg base k "cut_up" ["text", "sign"] sp_cut_up) (G_body_in : FnG P w K mg base k "body_in" ["text", "deep"] sp_body_in) (J : Jc) (f : Addr) (cdv : Value) (A : Around) (outer : List Env) (s : Shared) (H : Hp) (E : XK) (hr : Room k (A.deeper (PyProof.Rows.envOfC "item_in" (defScope s_item_in) s.heap.objs.size f cdv))) :
    DSs J (cxOf CX0 P w K mg base ["text", "deep", "place", "rest", "part"] "item_in" (defScope s_item_in) f cdv A outer s H E).nox (defBody s_item_in) (t_item_in sp_head_in sp_cut_up sp_body_in) :=
  have sc := sc_item_in
  (dss_cons (ds_set (i := 2) sc.nd rfl (by first | exact Or.inl rfl | exact Or.inr rfl) (de_bm PySem.F.plainAttrs_str PySem.F.slot_str_find PySem.F.type_str_find mt_dFind (de_var (i := 0)) (da_cons (de_str (s := " (")) da_nil))) (dss_cons (ds_if (dt_w (dw_or (dt_cmp op_dLt (de_var (i := 2)) de_int) (dw_or1 (dt_cmp (op_dNe (hu66 hr)) (de_slice (de_var (i := 0)) (do_some (de_neg de_int)) do_none) (de_str (s := ")")))))) (dss_one (ds_ret (de_callG G_head_in hr rfl (da_cons (de_var (i := 0)) da_nil) (Nat.le_refl _)))) dss_nil) (dss_cons (ds_set (i := 3) sc.nd rfl (by first | exact Or.inl rfl | exact Or.inr rfl) (de_callG G_cut_up hr rfl (da_cons (de_slice (de_var (i := 0)) (do_some (de_op op_dAdd (de_var (i := 2)) de_int)) (do_some (de_neg de_int))) (da_cons (de_str (s := " | ")) da_nil)) (Nat.le_refl _))) (dss_one (ds_ret (de_op op_dAdd (de_callG G_head_in hr rfl (da_cons (de_slice (de_var (i := 0)) do_none (do_some (de_var (i := 2)))) da_nil) (Nat.le_refl _)) (de_callTy call_dTup rfl T.b_tuple bv_tuple (da_cons (de_lcB false (own := [("part", 4)]) rfl sc.nd (di_seq (de_var (i := 3))) (blkOk_by (N := n_item_in) (sc := defScope s_item_in) (by decide +kernel)) (fun _ _ _ _ _ => (dtg_name (i := 4) sc.nd rfl (by first | exact Or.inl rfl | exact Or.inr rfl))) (fun _ _ _ _ _ => dts_nil) (fun _ _ _ _ _ => (de_callG G_body_in hr rfl (da_cons (de_var (i := 4)) (da_cons (de_op op_dAdd (de_var (i := 1)) de_int) da_nil)) (Nat.le_refl _)))) da_nil))))))))
theorem g_item_in {sp_head_in sp_cut_up sp_body_in : SpD} {sp : SpD} (T : Txt K mg) (D : Dn K mg "item_in" s_item_in ["text", "deep"]) (G_head_in : FnG P w K mg base k "head_in" ["text"] sp_head_in) (G_cut_up : FnG P w K mg base k "cut_up" ["text", "sign"] sp_cut_up) (G_body_in : FnG P w K mg base k "body_in" ["text", "deep"] sp_body_in) (len : ∀ ds M Q E, sp ds M Q E → ds.length = 2)
    (hq : ∀ ds M Φ Ψ, sp ds M Φ Ψ → t_item_in sp_head_in sp_cut_up sp_body_in (endD M Φ) (startD n_item_in ds) M) : FnG P w K mg base (k + 1) "item_in" ["text", "deep"] sp :=
  D.fnG (t_item_in sp_head_in sp_cut_up sp_body_in) sc_item_in len (fun J f cdv A outer s H E hr => d_item_in T G_head_in G_cut_up G_body_in J f cdv A outer s H E hr) hq

/-! body_in -/
abbrev s_body_in : Stmt := top 31
abbrev n_body_in : List Str := ["text", "deep", "part"]
theorem sc_body_in : FnScope ["text", "deep", "part"] ["text", "deep"] (defScope s_body_in) := ⟨rfl, rfl, rfl, by decide +kernel, rfl, by decide +kernel, by decide +kernel⟩
def t_body_in (sp_cut_up sp_item_in : SpD) : TSd := (tdSeq (tdIfS (tdTest (tdOp dGt (tdVar 1) (tdC (.int 8)))) (tdRet (tdC .non)) tdNext) (tdRet (tdIf (tdTest (tdOp dEq (tdVar 0) (tdC (.str (q ""))))) (tdTup tdNil) (tdCB dTupC (tdCons (tdLc (tdSeqI (tdCall sp_cut_up (tdCons (tdVar 0) (tdCons (tdC (.str (q "; "))) tdNil)))) (.one 2) tdYes (tdCall sp_item_in (tdCons (tdVar 2) (tdCons (tdVar 1) tdNil))) [2]) tdNil)))))
theorem d_body_in {sp_cut_up sp_item_in : SpD} (T : Txt K mg) (G_cut_up : FnG P w K mg base k "cut_up" ["text", "sign"] sp_cut_up) (G_item_in : FnG P w K mg base k "item_in" ["text", "deep"] sp_item_in) (J : Jc) (f : Addr) (cdv : Value) (A : Around) (outer : List Env) (s : Shared) (H : Hp) (E : XK) (hr : Room k (A.deeper (PyProof.Rows.envOfC "body_in" (defScope s_body_in) s.heap.objs.size f cdv))) :
    DSs J (cxOf CX0 P w K mg base ["text", "deep", "part"] "body_in" (defScope s_body_in) f cdv A outer s H E).nox (defBody s_body_in) (t_body_in sp_cut_up sp_item_in) :=
  have sc := sc_body_in
  (dss_cons (ds_if (dt_cmp op_dGt (de_var (i := 1)) (de_gl T.c_MOST_DEEP rfl)) (dss_one (ds_ret de_non)) dss_nil) (dss_one (ds_ret (de_if (dt_cmp (op_dEq (hu66 hr)) (de_var (i := 0)) (de_str (s := ""))) (de_tup da_nil) (de_callTy call_dTup rfl T.b_tuple bv_tuple (da_cons (de_lcB false (own := [("part", 2)]) rfl sc.nd (di_seq (de_callG G_cut_up hr rfl (da_cons (de_var (i := 0)) (da_cons (de_str (s := "; ")) da_nil)) (Nat.le_refl _))) (blkOk_by (N := n_body_in) (sc := defScope s_body_in) (by decide +kernel)) (fun _ _ _ _ _ => (dtg_name (i := 2) sc.nd rfl (by first | exact Or.inl rfl | exact Or.inr rfl))) (fun _ _ _ _ _ => dts_nil) (fun _ _ _ _ _ => (de_callG G_item_in hr rfl (da_cons (de_var (i := 2)) (da_cons (de_var (i := 1)) da_nil)) (Nat.le_refl _)))) da_nil))))))
theorem g_body_in {sp_cut_up sp_item_in : SpD} {sp : SpD} (T : Txt K mg) (D : Dn K mg "body_in" s_body_in ["text", "deep"]) (G_cut_up : FnG P w K mg base k "cut_up" ["text", "sign"] sp_cut_up) (G_item_in : FnG P w K mg base k "item_in" ["text", "deep"] sp_item_in) (len : ∀ ds M Q E, sp ds M Q E → ds.length = 2)
    (hq : ∀ ds M Φ Ψ, sp ds M Φ Ψ → t_body_in sp_cut_up sp_item_in (endD M Φ) (startD n_body_in ds) M) : FnG P w K mg base (k + 1) "body_in" ["text", "deep"] sp :=
  D.fnG (t_body_in sp_cut_up sp_item_in) sc_body_in len (fun J f cdv A outer s H E hr => d_body_in T G_cut_up G_item_in J f cdv A outer s H E hr) hq

/-! read_program -/
abbrev s_read_program : Stmt := top 32
abbrev n_read_program : List Str := ["text", "lines", "readers", "found", "part"]
theorem sc_read_program : FnScope ["text", "lines", "readers", "found", "part"] ["text"] (defScope s_read_program) := ⟨rfl, rfl, rfl, by decide +kernel, rfl, by decide +kernel, by decide +kernel⟩
def t_read_program (sp_body_in sp_is_program sp_text_of : SpD) (Ψ : XS) : TSd := (tdSeq (tdIfS (tdNot (tdTruth (tdCB dIsi (tdCons (tdVar 0) (tdCons (tdC (.ty "str")) tdNil))))) (tdRaise "InvalidText" Ψ) tdNext) (tdSeq (tdSet 1 (tdBM "str" dSplit (tdVar 0) (tdCons (tdC (.str (q "\n"))) tdNil))) (tdSeq (tdSet 2 (tdCB dTupC (tdCons (tdLc (tdSeqI (tdBM "str" dSplit (tdOp dIxS (tdVar 1) (tdC (.int 0))) (tdCons (tdC (.str (q ", "))) tdNil))) (.one 4) tdYes (tdCB dTupC (tdCons (tdBM "str" dSplit (tdVar 4) (tdCons (tdC (.str (q " "))) tdNil)) tdNil)) [4]) tdNil))) (tdSeq (tdSet 3 (tdTup (tdCons (tdVar 2) (tdCons (tdCall sp_body_in (tdCons (tdOp dIxS (tdVar 1) (tdNeg (tdC (.int 1)))) (tdCons (tdC (.int 1)) tdNil))) tdNil)))) (tdSeq (tdIfS (tdOr (tdTest (tdOp dNe (tdCB dLen (tdCons (tdVar 1) tdNil)) (tdC (.int 2)))) (tdOr (tdNot (tdTruth (tdCall sp_is_program (tdCons (tdVar 3) tdNil)))) (tdTest (tdOp dNe (tdCall sp_text_of (tdCons (tdVar 3) tdNil)) (tdVar 0))))) (tdRaise "InvalidText" Ψ) tdNext) (tdRet (tdVar 3)))))))
theorem d_read_program {sp_body_in sp_is_program sp_text_of : SpD} (T : Txt K mg) (G_body_in : FnG P w K mg base k "body_in" ["text", "deep"] sp_body_in) (G_is_program : FnG P w K mg base k "is_program" ["value"] sp_is_program) (G_text_of : FnG P w K mg base k "text_of" ["program"] sp_text_of) (J : Jc) (f : Addr) (cdv : Value) (A : Around) (outer : List Env) (s : Shared) (H : Hp) (E : XK) (Ψ : XS) (hr : Room k (A.deeper (PyProof.Rows.envOfC "read_program" (defScope s_read_program) s.heap.objs.size f cdv)))
    (th : Thr (cxOf (L2.CX P w) P w K mg base ["text", "lines", "readers", "found", "part"] "read_program" (defScope s_read_program) f cdv A outer s H E) J (fun c d _ H => E c d H) Ψ) :
    DSs J (cxOf (L2.CX P w) P w K mg base ["text", "lines", "readers", "found", "part"] "read_program" (defScope s_read_program) f cdv A outer s H E) (defBody s_read_program) (t_read_program sp_body_in sp_is_program sp_text_of Ψ) :=
  have sc := sc_read_program
  (dss_cons (ds_if (dt_not (dt_truth (de_callB call_dIsi rfl T.b_isinstance bv_isinstance (da_cons (de_var (i := 0)) (da_cons (de_bltn rfl T.b_str bv_str) da_nil))))) (dss_one (ds_raise T.x_InvalidText rfl th rfl)) dss_nil) (dss_cons (ds_set (i := 1) sc.nd rfl (by first | exact Or.inl rfl | exact Or.inr rfl) (de_bm PySem.F.plainAttrs_str PySem.F.slot_str_split PySem.F.type_str_split mt_dSplit (de_var (i := 0)) (da_cons (de_str (s := "\n")) da_nil))) (dss_cons (ds_set (i := 2) sc.nd rfl (by first | exact Or.inl rfl | exact Or.inr rfl) (de_callTy call_dTup rfl T.b_tuple bv_tuple (da_cons (de_lcB false (own := [("part", 4)]) rfl sc.nd (di_seq (de_bm PySem.F.plainAttrs_str PySem.F.slot_str_split PySem.F.type_str_split mt_dSplit (de_ix (de_var (i := 1)) de_int) (da_cons (de_str (s := ", ")) da_nil))) (blkOk_by (N := n_read_program) (sc := defScope s_read_program) (by decide +kernel)) (fun _ _ _ _ _ => (dtg_name (i := 4) sc.nd rfl (by first | exact Or.inl rfl | exact Or.inr rfl))) (fun _ _ _ _ _ => dts_nil) (fun _ _ _ _ _ => (de_callTy call_dTup rfl T.b_tuple bv_tuple (da_cons (de_bm PySem.F.plainAttrs_str PySem.F.slot_str_split PySem.F.type_str_split mt_dSplit (de_var (i := 4)) (da_cons (de_str (s := " ")) da_nil)) da_nil)))) da_nil))) (dss_cons (ds_set (i := 3) sc.nd rfl (by first | exact Or.inl rfl | exact Or.inr rfl) (de_tup (da_cons (de_var (i := 2)) (da_cons (de_callG G_body_in hr rfl (da_cons (de_ix (de_var (i := 1)) (de_neg de_int)) (da_cons de_int da_nil)) (Nat.le_refl _)) da_nil)))) (dss_cons (ds_if (dt_w (dw_or (dt_cmp (op_dNe (hu66 hr)) (de_callB call_dLen rfl T.b_len bv_len (da_cons (de_var (i := 1)) da_nil)) de_int) (dw_or (dt_not (dt_truth (de_callG G_is_program hr rfl (da_cons (de_var (i := 3)) da_nil) (Nat.le_refl _)))) (dw_or1 (dt_cmp (op_dNe (hu66 hr)) (de_callG G_text_of hr rfl (da_cons (de_var (i := 3)) da_nil) (Nat.le_refl _)) (de_var (i := 0))))))) (dss_one (ds_raise T.x_InvalidText rfl th rfl)) dss_nil) (dss_one (ds_ret (de_var (i := 3)))))))))
theorem g_read_program {sp_body_in sp_is_program sp_text_of : SpD} {sp : SpD} (T : Txt K mg) (D : Dn K mg "read_program" s_read_program ["text"]) (G_body_in : FnG P w K mg base k "body_in" ["text", "deep"] sp_body_in) (G_is_program : FnG P w K mg base k "is_program" ["value"] sp_is_program) (G_text_of : FnG P w K mg base k "text_of" ["program"] sp_text_of) (len : ∀ ds M Q E, sp ds M Q E → ds.length = 1)
    (hq : ∀ ds M Φ Ψ, sp ds M Φ Ψ → t_read_program sp_body_in sp_is_program sp_text_of (xsd Ψ) (endD M Φ) (startD n_read_program ds) M) : FnGX P w K mg base (k + 1) "read_program" ["text"] sp :=
  D.fnGX (t_read_program sp_body_in sp_is_program sp_text_of) sc_read_program len (fun J f cdv A outer s H E Ψ hr th => d_read_program T G_body_in G_is_program G_text_of J f cdv A outer s H E Ψ hr th) hq

/-! _law_deck -/
abbrev s_law_deck : Stmt := top 34
abbrev n_law_deck : List Str := ["cell", "turn"]
theorem sc_law_deck : FnScope ["cell", "turn"] ["cell", "turn"] (defScope s_law_deck) := ⟨rfl, rfl, rfl, by decide +kernel, rfl, by decide +kernel, by decide +kernel⟩
def t_law_deck : TSd := (tdSeq (tdIfS (tdTest (tdOp dGe (tdVar 0) (tdOp dPow (tdC (.int 10)) (tdC (.int 18))))) (tdRet (tdLstM (tdCons (tdOp dSub (tdVar 0) (tdOp dPow (tdC (.int 10)) (tdC (.int 18)))) (tdCons (tdOp dMod (tdCB dIntC (tdCons (tdVar 0) tdNil)) (tdC (.int 2147483579))) (tdCons (tdVar 1) tdNil))))) tdNext) (tdRet (tdLstM (tdCons (tdC (.int 0)) (tdCons (tdOp dMod (tdCB dIntC (tdCons (tdVar 0) tdNil)) (tdC (.int 2147483579))) (tdCons (tdVar 1) tdNil))))))
theorem d_law_deck (T : Txt K mg) (J : Jc) (f : Addr) (cdv : Value) (A : Around) (outer : List Env) (s : Shared) (H : Hp) (E : XK) (hr : Room k (A.deeper (PyProof.Rows.envOfC "_law_deck" (defScope s_law_deck) s.heap.objs.size f cdv))) :
    DSs J (cxOf CX0 P w K mg base ["cell", "turn"] "_law_deck" (defScope s_law_deck) f cdv A outer s H E).nox (defBody s_law_deck) (t_law_deck) :=
  have sc := sc_law_deck
  (dss_cons (ds_if (dt_cmp op_dGe (de_var (i := 0)) (de_op op_dPow de_int de_int)) (dss_one (ds_ret (de_lstM (da_cons (de_op op_dSub (de_var (i := 0)) (de_op op_dPow de_int de_int)) (da_cons (de_op op_dMod (de_callTy call_dInt rfl T.b_int bv_int (da_cons (de_var (i := 0)) da_nil)) de_int) (da_cons (de_var (i := 1)) da_nil)))))) dss_nil) (dss_one (ds_ret (de_lstM (da_cons de_int (da_cons (de_op op_dMod (de_callTy call_dInt rfl T.b_int bv_int (da_cons (de_var (i := 0)) da_nil)) de_int) (da_cons (de_var (i := 1)) da_nil)))))))
theorem g_law_deck {sp : SpD} (T : Txt K mg) (D : Dn K mg "_law_deck" s_law_deck ["cell", "turn"]) (len : ∀ ds M Q E, sp ds M Q E → ds.length = 2)
    (hq : ∀ ds M Φ Ψ, sp ds M Φ Ψ → t_law_deck (endD M Φ) (startD n_law_deck ds) M) : FnG P w K mg base (k + 1) "_law_deck" ["cell", "turn"] sp :=
  D.fnG (t_law_deck) sc_law_deck len (fun J f cdv A outer s H E hr => d_law_deck T J f cdv A outer s H E hr) hq

/-! _law_pick -/
abbrev s_law_pick : Stmt := top 35
abbrev n_law_pick : List Str := ["deck", "limit", "got", "number"]
theorem sc_law_pick : FnScope ["deck", "limit", "got", "number"] ["deck", "limit"] (defScope s_law_pick) := ⟨rfl, rfl, rfl, by decide +kernel, rfl, by decide +kernel, by decide +kernel⟩
def t_law_pick : TSd := (tdSeq (tdIfS (tdTest (tdOp dGt (tdOp dIxS (tdVar 0) (tdC (.int 0))) (tdC (.int 1)))) (tdSeq (tdSet 2 (tdOp dMod (tdCB dIntC (tdCons (tdOp dIxS (tdVar 0) (tdC (.int 0))) tdNil)) (tdVar 1))) (tdSeq (tdSub (tdVar 0) (tdC (.int 0)) (tdOp dFdiv (tdOp dIxS (tdVar 0) (tdC (.int 0))) (tdVar 1))) (tdRet (tdVar 2)))) tdNext) (tdSeq (tdSub (tdVar 0) (tdC (.int 2)) (tdOp dAdd (tdOp dIxS (tdVar 0) (tdC (.int 2))) (tdC (.int 1)))) (tdSeq (tdSet 3 (tdOp dMod (tdCB dIntC (tdCons (tdOp dPow (tdCB dIntC (tdCons (tdOp dAdd (tdOp dIxS (tdVar 0) (tdC (.int 1))) (tdOp dMul (tdC (.int 15485867)) (tdOp dIxS (tdVar 0) (tdC (.int 2))))) tdNil)) (tdC (.int 5))) tdNil)) (tdC (.int 2147483647)))) (tdSeq (tdSet 2 (tdOp dFdiv (tdOp dMod (tdCB dIntC (tdCons (tdOp dPow (tdCB dIntC (tdCons (tdOp dAdd (tdVar 3) (tdOp dMul (tdC (.int 7919)) (tdOp dIxS (tdVar 0) (tdC (.int 2))))) tdNil)) (tdC (.int 3))) tdNil)) (tdC (.int 2147483629))) (tdC (.int 32)))) (tdRet (tdOp dMod (tdCB dIntC (tdCons (tdVar 2) tdNil)) (tdVar 1)))))))
theorem d_law_pick (T : Txt K mg) (J : Jc) (f : Addr) (cdv : Value) (A : Around) (outer : List Env) (s : Shared) (H : Hp) (E : XK) (hr : Room k (A.deeper (PyProof.Rows.envOfC "_law_pick" (defScope s_law_pick) s.heap.objs.size f cdv))) :
    DSs J (cxOf CX0 P w K mg base ["deck", "limit", "got", "number"] "_law_pick" (defScope s_law_pick) f cdv A outer s H E).nox (defBody s_law_pick) (t_law_pick) :=
  have sc := sc_law_pick
  (dss_cons (ds_if (dt_cmp op_dGt (de_ix (de_var (i := 0)) de_int) de_int) (dss_cons (ds_set (i := 2) sc.nd rfl (by first | exact Or.inl rfl | exact Or.inr rfl) (de_op op_dMod (de_callTy call_dInt rfl T.b_int bv_int (da_cons (de_ix (de_var (i := 0)) de_int) da_nil)) (de_var (i := 1)))) (dss_cons (ds_sub (de_var (i := 0)) de_int (de_op op_dFdiv (de_ix (de_var (i := 0)) de_int) (de_var (i := 1)))) (dss_one (ds_ret (de_var (i := 2)))))) dss_nil) (dss_cons (ds_sub (de_var (i := 0)) de_int (de_op op_dAdd (de_ix (de_var (i := 0)) de_int) de_int)) (dss_cons (ds_set (i := 3) sc.nd rfl (by first | exact Or.inl rfl | exact Or.inr rfl) (de_op op_dMod (de_callTy call_dInt rfl T.b_int bv_int (da_cons (de_op op_dPow (de_callTy call_dInt rfl T.b_int bv_int (da_cons (de_op op_dAdd (de_ix (de_var (i := 0)) de_int) (de_op op_dMul de_int (de_ix (de_var (i := 0)) de_int))) da_nil)) de_int) da_nil)) de_int)) (dss_cons (ds_set (i := 2) sc.nd rfl (by first | exact Or.inl rfl | exact Or.inr rfl) (de_op op_dFdiv (de_op op_dMod (de_callTy call_dInt rfl T.b_int bv_int (da_cons (de_op op_dPow (de_callTy call_dInt rfl T.b_int bv_int (da_cons (de_op op_dAdd (de_var (i := 3)) (de_op op_dMul de_int (de_ix (de_var (i := 0)) de_int))) da_nil)) de_int) da_nil)) de_int) de_int)) (dss_one (ds_ret (de_op op_dMod (de_callTy call_dInt rfl T.b_int bv_int (da_cons (de_var (i := 2)) da_nil)) (de_var (i := 1)))))))))
theorem g_law_pick {sp : SpD} (T : Txt K mg) (D : Dn K mg "_law_pick" s_law_pick ["deck", "limit"]) (len : ∀ ds M Q E, sp ds M Q E → ds.length = 2)
    (hq : ∀ ds M Φ Ψ, sp ds M Φ Ψ → t_law_pick (endD M Φ) (startD n_law_pick ds) M) : FnG P w K mg base (k + 1) "_law_pick" ["deck", "limit"] sp :=
  D.fnG (t_law_pick) sc_law_pick len (fun J f cdv A outer s H E hr => d_law_pick T J f cdv A outer s H E hr) hq

/-! _law_one -/
abbrev s_law_one : Stmt := top 36
abbrev n_law_one : List Str := ["deck", "items"]
theorem sc_law_one : FnScope ["deck", "items"] ["deck", "items"] (defScope s_law_one) := ⟨rfl, rfl, rfl, by decide +kernel, rfl, by decide +kernel, by decide +kernel⟩
def t_law_one (sp_law_pick : SpD) : TSd := (tdRet (tdOp dIxS (tdVar 1) (tdCall sp_law_pick (tdCons (tdVar 0) (tdCons (tdCB dLen (tdCons (tdVar 1) tdNil)) tdNil)))))
theorem d_law_one {sp_law_pick : SpD} (T : Txt K mg) (G_law_pick : FnG P w K mg base k "_law_pick" ["deck", "limit"] sp_law_pick) (J : Jc) (f : Addr) (cdv : Value) (A : Around) (outer : List Env) (s : Shared) (H : Hp) (E : XK) (hr : Room k (A.deeper (PyProof.Rows.envOfC "_law_one" (defScope s_law_one) s.heap.objs.size f cdv))) :
    DSs J (cxOf CX0 P w K mg base ["deck", "items"] "_law_one" (defScope s_law_one) f cdv A outer s H E).nox (defBody s_law_one) (t_law_one sp_law_pick) :=
  have sc := sc_law_one
  (dss_one (ds_ret (de_ix (de_var (i := 1)) (de_callG G_law_pick hr rfl (da_cons (de_var (i := 0)) (da_cons (de_callB call_dLen rfl T.b_len bv_len (da_cons (de_var (i := 1)) da_nil)) da_nil)) (Nat.le_refl _)))))
theorem g_law_one {sp_law_pick : SpD} {sp : SpD} (T : Txt K mg) (D : Dn K mg "_law_one" s_law_one ["deck", "items"]) (G_law_pick : FnG P w K mg base k "_law_pick" ["deck", "limit"] sp_law_pick) (len : ∀ ds M Q E, sp ds M Q E → ds.length = 2)
    (hq : ∀ ds M Φ Ψ, sp ds M Φ Ψ → t_law_one sp_law_pick (endD M Φ) (startD n_law_one ds) M) : FnG P w K mg base (k + 1) "_law_one" ["deck", "items"] sp :=
  D.fnG (t_law_one sp_law_pick) sc_law_one len (fun J f cdv A outer s H E hr => d_law_one T G_law_pick J f cdv A outer s H E hr) hq
theorem gI_law_one {sp_law_pick : SpD} {sp : SpD} (T : Txt K mg) (D : Dn K mg "_law_one" s_law_one ["deck", "items"]) (G_law_pick : FnG P w K mg base k "_law_pick" ["deck", "limit"] sp_law_pick) (hq : ∀ ds M Φ Ψ, sp ds M Φ Ψ → t_law_one sp_law_pick (endD M Φ) (startD n_law_one ds) M) : FnI P w K mg base (k + 1) "_law_one" sp :=
  D.fnI rfl (tdCall sp_law_pick (tdCons (tdVar 0) (tdCons (tdCB dLen (tdCons (tdVar 1) tdNil)) tdNil))) sc_law_one rfl rfl (by rfl) (by intro _ _; rfl) (by decide) (by decide) (fun J f cdv A outer s H E hr => have sc := sc_law_one; (de_callG G_law_pick hr rfl (da_cons (de_var (i := 0)) (da_cons (de_callB call_dLen rfl T.b_len bv_len (da_cons (de_var (i := 1)) da_nil)) da_nil)) (Nat.le_refl _))) hq

/-! _law_readers -/
abbrev s_law_readers : Stmt := top 37
abbrev n_law_readers : List Str := ["deck", "names", "name"]
theorem sc_law_readers : FnScope ["deck", "names", "name"] ["deck"] (defScope s_law_readers) := ⟨rfl, rfl, rfl, by decide +kernel, rfl, by decide +kernel, by decide +kernel⟩
def t_law_readers (sp_law_pick sp_law_one : SpD) : TSd := (tdSeq (tdSet 1 (tdSl (tdSl (tdLst (tdCons (tdC (.str (q "a"))) (tdCons (tdC (.str (q "b"))) (tdCons (tdC (.str (q "head"))) (tdCons (tdC (.str (q "rest"))) (tdCons (tdC (.str (q "zz"))) tdNil)))))) (tdPart (tdCall sp_law_pick (tdCons (tdVar 0) (tdCons (tdC (.int 3)) tdNil)))) tdNoPart) tdNoPart (tdPart (tdOp dAdd (tdC (.int 1)) (tdCall sp_law_pick (tdCons (tdVar 0) (tdCons (tdC (.int 3)) tdNil))))))) (tdRet (tdCB dTupC (tdCons (tdLc (tdSeqI (tdVar 1)) (.one 2) tdYes (tdTup (tdCons (tdVar 2) (tdCons (tdCall sp_law_one (tdCons (tdVar 0) (tdCons (tdLst (tdCons (tdC (.str (q "ahead"))) (tdCons (tdC (.str (q "one"))) tdNil))) tdNil))) tdNil))) [2]) tdNil))))
theorem d_law_readers {sp_law_pick sp_law_one : SpD} (T : Txt K mg) (G_law_pick : FnG P w K mg base k "_law_pick" ["deck", "limit"] sp_law_pick) (G_law_one : FnG P w K mg base k "_law_one" ["deck", "items"] sp_law_one) (J : Jc) (f : Addr) (cdv : Value) (A : Around) (outer : List Env) (s : Shared) (H : Hp) (E : XK) (hr : Room k (A.deeper (PyProof.Rows.envOfC "_law_readers" (defScope s_law_readers) s.heap.objs.size f cdv))) :
    DSs J (cxOf CX0 P w K mg base ["deck", "names", "name"] "_law_readers" (defScope s_law_readers) f cdv A outer s H E).nox (defBody s_law_readers) (t_law_readers sp_law_pick sp_law_one) :=
  have sc := sc_law_readers
  (dss_cons (ds_set (i := 1) sc.nd rfl (by first | exact Or.inl rfl | exact Or.inr rfl) (de_slice (de_slice (de_lst (da_cons (de_str (s := "a")) (da_cons (de_str (s := "b")) (da_cons (de_str (s := "head")) (da_cons (de_str (s := "rest")) (da_cons (de_str (s := "zz")) da_nil)))))) (do_some (de_callG G_law_pick hr rfl (da_cons (de_var (i := 0)) (da_cons de_int da_nil)) (Nat.le_refl _))) do_none) do_none (do_some (de_op op_dAdd de_int (de_callG G_law_pick hr rfl (da_cons (de_var (i := 0)) (da_cons de_int da_nil)) (Nat.le_refl _)))))) (dss_one (ds_ret (de_callTy call_dTup rfl T.b_tuple bv_tuple (da_cons (de_lcB false (own := [("name", 2)]) rfl sc.nd (di_seq (de_var (i := 1))) (blkOk_by (N := n_law_readers) (sc := defScope s_law_readers) (by decide +kernel)) (fun _ _ _ _ _ => (dtg_name (i := 2) sc.nd rfl (by first | exact Or.inl rfl | exact Or.inr rfl))) (fun _ _ _ _ _ => dts_nil) (fun _ _ _ _ _ => (de_tup (da_cons (de_var (i := 2)) (da_cons (de_callG G_law_one hr rfl (da_cons (de_var (i := 0)) (da_cons (de_lst (da_cons (de_str (s := "ahead")) (da_cons (de_str (s := "one")) da_nil))) da_nil)) (Nat.le_refl _)) da_nil))))) da_nil)))))
theorem g_law_readers {sp_law_pick sp_law_one : SpD} {sp : SpD} (T : Txt K mg) (D : Dn K mg "_law_readers" s_law_readers ["deck"]) (G_law_pick : FnG P w K mg base k "_law_pick" ["deck", "limit"] sp_law_pick) (G_law_one : FnG P w K mg base k "_law_one" ["deck", "items"] sp_law_one) (len : ∀ ds M Q E, sp ds M Q E → ds.length = 1)
    (hq : ∀ ds M Φ Ψ, sp ds M Φ Ψ → t_law_readers sp_law_pick sp_law_one (endD M Φ) (startD n_law_readers ds) M) : FnG P w K mg base (k + 1) "_law_readers" ["deck"] sp :=
  D.fnG (t_law_readers sp_law_pick sp_law_one) sc_law_readers len (fun J f cdv A outer s H E hr => d_law_readers T G_law_pick G_law_one J f cdv A outer s H E hr) hq

/-! _law_body -/
abbrev s_law_body : Stmt := top 38
abbrev n_law_body : List Str := ["deck", "readers", "deep", "left", "items", "names", "turn", "kind", "name", "mark", "others", "some", "reader", "other", "k"]
theorem sc_law_body : FnScope ["deck", "readers", "deep", "left", "items", "names", "turn", "kind", "name", "mark", "others", "some", "reader", "other", "k"] ["deck", "readers", "deep", "left"] (defScope s_law_body) := ⟨rfl, rfl, rfl, by decide +kernel, rfl, by decide +kernel, by decide +kernel⟩
def t_law_body (sp_law_pick sp_law_one sp_law_body : SpD) : TSd := (tdSeq (tdPar [4, 5] (tdCons (tdLstM tdNil) (tdCons (tdLc (tdSeqI (tdVar 1)) (.one 12) tdYes (tdOp dIxS (tdVar 12) (tdC (.int 0))) [12]) tdNil))) (tdSeq (tdFor (tdRng1 (tdCons (tdOp dAdd (tdC (.int 1)) (tdCall sp_law_pick (tdCons (tdVar 0) (tdCons (tdC (.int 4)) tdNil)))) tdNil)) (.one 6) (tdSeq (tdAsg (tdTup (tdCons (tdCall sp_law_pick (tdCons (tdVar 0) (tdCons (tdC (.int 20)) tdNil))) (tdCons (tdCall sp_law_one (tdCons (tdVar 0) (tdCons (tdVar 5) tdNil))) tdNil))) (.many [7, 8])) (tdSeq (tdSet 9 (tdCall sp_law_one (tdCons (tdVar 0) (tdCons (tdLst (tdCons (tdC (.str (q "n"))) (tdCons (tdC (.str (q "n"))) (tdCons (tdC (.str (q "e"))) (tdCons (tdC (.str (q "n"))) tdNil))))) tdNil)))) (tdSeq (tdSub (tdVar 3) (tdC (.int 0)) (tdOp dSub (tdOp dIxS (tdVar 3) (tdC (.int 0))) (tdC (.int 1)))) (tdSeq (tdIfS (tdTest (tdOp dLt (tdOp dIxS (tdVar 3) (tdC (.int 0))) (tdC (.int 0)))) (tdRet (tdCB dTupC (tdCons (tdVar 4) tdNil))) tdNext) (tdIfS (tdTest (tdOp dLt (tdVar 7) (tdC (.int 6)))) (tdDrop (tdBM "list" dAppend (tdVar 4) (tdCons (tdTup (tdCons (tdC (.str (q "take"))) (tdCons (tdVar 8) (tdCons (tdOp dAdd (tdC (.int 1)) (tdCall sp_law_pick (tdCons (tdVar 0) (tdCons (tdC (.int 3)) tdNil)))) tdNil)))) tdNil))) (tdIfS (tdTest (tdOp dLt (tdVar 7) (tdC (.int 9)))) (tdDrop (tdBM "list" dAppend (tdVar 4) (tdCons (tdTup (tdCons (tdC (.str (q "until"))) (tdCons (tdVar 8) (tdCons (tdVar 9) tdNil)))) tdNil))) (tdIfS (tdTest (tdOp dEq (tdVar 7) (tdC (.int 9)))) (tdDrop (tdBM "list" dAppend (tdVar 4) (tdCons (tdTup (tdCons (tdC (.str (q "back"))) (tdCons (tdVar 8) tdNil))) tdNil))) (tdIfS (tdAnd (tdTest (tdOp dEq (tdVar 7) (tdC (.int 10)))) (tdTest (tdOp dGt (tdCB dLen (tdCons (tdVar 5) tdNil)) (tdC (.int 1))))) (tdSeq (tdSet 10 (tdLc (tdSeqI (tdVar 5)) (.one 13) (tdTest (tdOp dNe (tdVar 13) (tdVar 8))) (tdVar 13) [13])) (tdDrop (tdBM "list" dAppend (tdVar 4) (tdCons (tdTup (tdCons (tdC (.str (q "give"))) (tdCons (tdVar 8) (tdCons (tdCall sp_law_one (tdCons (tdVar 0) (tdCons (tdVar 10) tdNil))) tdNil)))) tdNil)))) (tdIfS (tdOr (tdTest (tdOp dEq (tdVar 2) (tdC (.int 0)))) (tdTest (tdOp dLt (tdVar 7) (tdC (.int 12))))) (tdDrop (tdBM "list" dAppend (tdVar 4) (tdCons (tdTup (tdCons (tdC (.str (q "take"))) (tdCons (tdVar 8) (tdCons (tdC (.int 1)) tdNil)))) tdNil))) (tdIfS (tdTest (tdOp dLt (tdVar 7) (tdC (.int 14)))) (tdDrop (tdBM "list" dAppend (tdVar 4) (tdCons (tdTup (tdCons (tdC (.str (q "call"))) (tdCons (tdCall sp_law_body (tdCons (tdVar 0) (tdCons (tdVar 1) (tdCons (tdOp dSub (tdVar 2) (tdC (.int 1))) (tdCons (tdVar 3) tdNil))))) tdNil))) tdNil))) (tdIfS (tdTest (tdOp dLt (tdVar 7) (tdC (.int 17)))) (tdSeq (tdSet 11 (tdLcM (tdRng1 (tdCons (tdC (.int 2)) tdNil)) (.one 14) tdYes (tdCall sp_law_body (tdCons (tdVar 0) (tdCons (tdVar 1) (tdCons (tdOp dSub (tdVar 2) (tdC (.int 1))) (tdCons (tdVar 3) tdNil))))) [14])) (tdSeq (tdSub (tdVar 11) (tdC (.int 1)) (tdIf (tdTest (tdOp dEq (tdCall sp_law_pick (tdCons (tdVar 0) (tdCons (tdC (.int 2)) tdNil))) (tdC (.int 0)))) (tdOp dIxS (tdVar 11) (tdC (.int 1))) (tdTup tdNil))) (tdDrop (tdBM "list" dAppend (tdVar 4) (tdCons (tdOp dAdd (tdTup (tdCons (tdC (.str (q "if"))) (tdCons (tdVar 8) (tdCons (tdCall sp_law_one (tdCons (tdVar 0) (tdCons (tdLst (tdCons (tdVar 9) (tdCons (tdVar 9) (tdCons (tdC (.str (q ""))) tdNil)))) tdNil))) tdNil)))) (tdCB dTupC (tdCons (tdVar 11) tdNil))) tdNil))))) (tdSeq (tdSet 11 (tdCall sp_law_body (tdCons (tdVar 0) (tdCons (tdVar 1) (tdCons (tdOp dSub (tdVar 2) (tdC (.int 1))) (tdCons (tdVar 3) tdNil)))))) (tdSeq (tdSet 11 (tdIf (tdTest (tdOp dEq (tdCall sp_law_pick (tdCons (tdVar 0) (tdCons (tdC (.int 6)) tdNil))) (tdC (.int 0)))) (tdVar 11) (tdOp dAdd (tdVar 11) (tdTup (tdCons (tdTup (tdCons (tdC (.str (q "take"))) (tdCons (tdCall sp_law_one (tdCons (tdVar 0) (tdCons (tdVar 5) tdNil))) (tdCons (tdC (.int 1)) tdNil)))) tdNil))))) (tdDrop (tdBM "list" dAppend (tdVar 4) (tdCons (tdTup (tdCons (tdC (.str (q "while"))) (tdCons (tdVar 8) (tdCons (tdCall sp_law_one (tdCons (tdVar 0) (tdCons (tdLst (tdCons (tdVar 9) (tdCons (tdVar 9) (tdCons (tdC (.str (q ""))) tdNil)))) tdNil))) (tdCons (tdVar 11) tdNil))))) tdNil))))))))))))))))) (tdRet (tdCB dTupC (tdCons (tdVar 4) tdNil)))))
theorem d_law_body {sp_law_pick sp_law_one sp_law_body : SpD} (T : Txt K mg) (G_law_pick : FnG P w K mg base k "_law_pick" ["deck", "limit"] sp_law_pick) (G_law_one : FnG P w K mg base k "_law_one" ["deck", "items"] sp_law_one) (G_law_body : FnG P w K mg base k "_law_body" ["deck", "readers", "deep", "left"] sp_law_body) (J : Jc) (f : Addr) (cdv : Value) (A : Around) (outer : List Env) (s : Shared) (H : Hp) (E : XK) (hr : Room k (A.deeper (PyProof.Rows.envOfC "_law_body" (defScope s_law_body) s.heap.objs.size f cdv))) :
    DSs J (cxOf CX0 P w K mg base ["deck", "readers", "deep", "left", "items", "names", "turn", "kind", "name", "mark", "others", "some", "reader", "other", "k"] "_law_body" (defScope s_law_body) f cdv A outer s H E).nox (defBody s_law_body) (t_law_body sp_law_pick sp_law_one sp_law_body) :=
  have sc := sc_law_body
  (dss_cons (ds_par (i := 4) (j := 5) rfl sc.nd rfl rfl (by decide) rfl rfl (da_cons (de_lstM da_nil) (da_cons (de_lcB false (own := [("reader", 12)]) rfl sc.nd (di_seq (de_var (i := 1))) (blkOk_by (N := n_law_body) (sc := defScope s_law_body) (by decide +kernel)) (fun _ _ _ _ _ => (dtg_name (i := 12) sc.nd rfl (by first | exact Or.inl rfl | exact Or.inr rfl))) (fun _ _ _ _ _ => dts_nil) (fun _ _ _ _ _ => (de_ix (de_var (i := 12)) de_int))) da_nil)) (by rfl)) (dss_cons (ds_for PassesOwn.never rfl (di_range1 rfl T.b_range (da_cons (de_op op_dAdd de_int (de_callG G_law_pick hr rfl (da_cons (de_var (i := 0)) (da_cons de_int da_nil)) (Nat.le_refl _))) da_nil)) (dtg_name (i := 6) sc.nd rfl (by first | exact Or.inl rfl | exact Or.inr rfl)) (dss_cons (ds_asg (de_tup (da_cons (de_callG G_law_pick hr rfl (da_cons (de_var (i := 0)) (da_cons de_int da_nil)) (Nat.le_refl _)) (da_cons (de_callG G_law_one hr rfl (da_cons (de_var (i := 0)) (da_cons (de_var (i := 5)) da_nil)) (Nat.le_refl _)) da_nil))) (dtg_tup (is := [7, 8]) rfl (pgs_cons (pg_name (i := 7) sc.nd rfl (by first | exact Or.inl rfl | exact Or.inr rfl)) (pgs_cons (pg_name (i := 8) sc.nd rfl (by first | exact Or.inl rfl | exact Or.inr rfl)) pgs_nil)))) (dss_cons (ds_set (i := 9) sc.nd rfl (by first | exact Or.inl rfl | exact Or.inr rfl) (de_callG G_law_one hr rfl (da_cons (de_var (i := 0)) (da_cons (de_lst (da_cons (de_str (s := "n")) (da_cons (de_str (s := "n")) (da_cons (de_str (s := "e")) (da_cons (de_str (s := "n")) da_nil))))) da_nil)) (Nat.le_refl _))) (dss_cons (ds_sub (de_var (i := 3)) de_int (de_op op_dSub (de_ix (de_var (i := 3)) de_int) de_int)) (dss_cons (ds_if (dt_cmp op_dLt (de_ix (de_var (i := 3)) de_int) de_int) (dss_one (ds_ret (de_callTy call_dTup rfl T.b_tuple bv_tuple (da_cons (de_var (i := 4)) da_nil)))) dss_nil) (dss_one (ds_if (dt_cmp op_dLt (de_var (i := 7)) de_int) (dss_one (ds_expr (de_bm PySem.F.plainAttrs_list PySem.F.slot_list_append PySem.F.type_list_append mt_dAppend (de_var (i := 4)) (da_cons (de_tup (da_cons (de_str (s := "take")) (da_cons (de_var (i := 8)) (da_cons (de_op op_dAdd de_int (de_callG G_law_pick hr rfl (da_cons (de_var (i := 0)) (da_cons de_int da_nil)) (Nat.le_refl _))) da_nil)))) da_nil)))) (dss_one (ds_if (dt_cmp op_dLt (de_var (i := 7)) de_int) (dss_one (ds_expr (de_bm PySem.F.plainAttrs_list PySem.F.slot_list_append PySem.F.type_list_append mt_dAppend (de_var (i := 4)) (da_cons (de_tup (da_cons (de_str (s := "until")) (da_cons (de_var (i := 8)) (da_cons (de_var (i := 9)) da_nil)))) da_nil)))) (dss_one (ds_if (dt_cmp (op_dEq (hu66 hr)) (de_var (i := 7)) de_int) (dss_one (ds_expr (de_bm PySem.F.plainAttrs_list PySem.F.slot_list_append PySem.F.type_list_append mt_dAppend (de_var (i := 4)) (da_cons (de_tup (da_cons (de_str (s := "back")) (da_cons (de_var (i := 8)) da_nil))) da_nil)))) (dss_one (ds_if (dt_w (dw_and (dt_cmp (op_dEq (hu66 hr)) (de_var (i := 7)) de_int) (dw_and1 (dt_cmp op_dGt (de_callB call_dLen rfl T.b_len bv_len (da_cons (de_var (i := 5)) da_nil)) de_int)))) (dss_cons (ds_setLcB false (i := 10) (own := [("other", 13)]) rfl sc.nd rfl rfl (sw_true rfl rfl rfl (by decide +kernel)) (di_seq (de_var (i := 5))) (blkOk_by (N := n_law_body) (sc := defScope s_law_body) (by decide +kernel)) (fun _ _ _ _ _ => (dtg_name (i := 13) sc.nd rfl (by first | exact Or.inl rfl | exact Or.inr rfl))) (fun _ _ _ _ _ => (dts_one (dt_cmp (op_dNe (hu66 hr)) (de_var (i := 13)) (de_var (i := 8))))) (fun _ _ _ _ _ => (de_var (i := 13)))) (dss_one (ds_expr (de_bm PySem.F.plainAttrs_list PySem.F.slot_list_append PySem.F.type_list_append mt_dAppend (de_var (i := 4)) (da_cons (de_tup (da_cons (de_str (s := "give")) (da_cons (de_var (i := 8)) (da_cons (de_callG G_law_one hr rfl (da_cons (de_var (i := 0)) (da_cons (de_var (i := 10)) da_nil)) (Nat.le_refl _)) da_nil)))) da_nil))))) (dss_one (ds_if (dt_w (dw_or (dt_cmp (op_dEq (hu66 hr)) (de_var (i := 2)) de_int) (dw_or1 (dt_cmp op_dLt (de_var (i := 7)) de_int)))) (dss_one (ds_expr (de_bm PySem.F.plainAttrs_list PySem.F.slot_list_append PySem.F.type_list_append mt_dAppend (de_var (i := 4)) (da_cons (de_tup (da_cons (de_str (s := "take")) (da_cons (de_var (i := 8)) (da_cons de_int da_nil)))) da_nil)))) (dss_one (ds_if (dt_cmp op_dLt (de_var (i := 7)) de_int) (dss_one (ds_expr (de_bm PySem.F.plainAttrs_list PySem.F.slot_list_append PySem.F.type_list_append mt_dAppend (de_var (i := 4)) (da_cons (de_tup (da_cons (de_str (s := "call")) (da_cons (de_callG G_law_body hr rfl (da_cons (de_var (i := 0)) (da_cons (de_var (i := 1)) (da_cons (de_op op_dSub (de_var (i := 2)) de_int) (da_cons (de_var (i := 3)) da_nil)))) (Nat.le_refl _)) da_nil))) da_nil)))) (dss_one (ds_if (dt_cmp op_dLt (de_var (i := 7)) de_int) (dss_cons (ds_setLcB true (i := 11) (own := [("k", 14)]) rfl sc.nd rfl rfl (sw_true rfl rfl rfl (by decide +kernel)) (di_range1 rfl T.b_range (da_cons de_int da_nil)) (blkOk_by (N := n_law_body) (sc := defScope s_law_body) (by decide +kernel)) (fun _ _ _ _ _ => (dtg_name (i := 14) sc.nd rfl (by first | exact Or.inl rfl | exact Or.inr rfl))) (fun _ _ _ _ _ => dts_nil) (fun _ _ _ _ _ => (de_callG G_law_body hr rfl (da_cons (de_var (i := 0)) (da_cons (de_var (i := 1)) (da_cons (de_op op_dSub (de_var (i := 2)) de_int) (da_cons (de_var (i := 3)) da_nil)))) (Nat.le_refl _)))) (dss_cons (ds_sub (de_var (i := 11)) de_int (de_if (dt_cmp (op_dEq (hu66 hr)) (de_callG G_law_pick hr rfl (da_cons (de_var (i := 0)) (da_cons de_int da_nil)) (Nat.le_refl _)) de_int) (de_ix (de_var (i := 11)) de_int) (de_tup da_nil))) (dss_one (ds_expr (de_bm PySem.F.plainAttrs_list PySem.F.slot_list_append PySem.F.type_list_append mt_dAppend (de_var (i := 4)) (da_cons (de_op op_dAdd (de_tup (da_cons (de_str (s := "if")) (da_cons (de_var (i := 8)) (da_cons (de_callG G_law_one hr rfl (da_cons (de_var (i := 0)) (da_cons (de_lst (da_cons (de_var (i := 9)) (da_cons (de_var (i := 9)) (da_cons (de_str (s := "")) da_nil)))) da_nil)) (Nat.le_refl _)) da_nil)))) (de_callTy call_dTup rfl T.b_tuple bv_tuple (da_cons (de_var (i := 11)) da_nil))) da_nil)))))) (dss_cons (ds_set (i := 11) sc.nd rfl (by first | exact Or.inl rfl | exact Or.inr rfl) (de_callG G_law_body hr rfl (da_cons (de_var (i := 0)) (da_cons (de_var (i := 1)) (da_cons (de_op op_dSub (de_var (i := 2)) de_int) (da_cons (de_var (i := 3)) da_nil)))) (Nat.le_refl _))) (dss_cons (ds_set (i := 11) sc.nd rfl (by first | exact Or.inl rfl | exact Or.inr rfl) (de_if (dt_cmp (op_dEq (hu66 hr)) (de_callG G_law_pick hr rfl (da_cons (de_var (i := 0)) (da_cons de_int da_nil)) (Nat.le_refl _)) de_int) (de_var (i := 11)) (de_op op_dAdd (de_var (i := 11)) (de_tup (da_cons (de_tup (da_cons (de_str (s := "take")) (da_cons (de_callG G_law_one hr rfl (da_cons (de_var (i := 0)) (da_cons (de_var (i := 5)) da_nil)) (Nat.le_refl _)) (da_cons de_int da_nil)))) da_nil))))) (dss_one (ds_expr (de_bm PySem.F.plainAttrs_list PySem.F.slot_list_append PySem.F.type_list_append mt_dAppend (de_var (i := 4)) (da_cons (de_tup (da_cons (de_str (s := "while")) (da_cons (de_var (i := 8)) (da_cons (de_callG G_law_one hr rfl (da_cons (de_var (i := 0)) (da_cons (de_lst (da_cons (de_var (i := 9)) (da_cons (de_var (i := 9)) (da_cons (de_str (s := "")) da_nil)))) da_nil)) (Nat.le_refl _)) (da_cons (de_var (i := 11)) da_nil))))) da_nil))))))))))))))))))))))))) (dss_one (ds_ret (de_callTy call_dTup rfl T.b_tuple bv_tuple (da_cons (de_var (i := 4)) da_nil))))))
theorem g_law_body {sp_law_pick sp_law_one sp_law_body : SpD} {sp : SpD} (T : Txt K mg) (D : Dn K mg "_law_body" s_law_body ["deck", "readers", "deep", "left"]) (G_law_pick : FnG P w K mg base k "_law_pick" ["deck", "limit"] sp_law_pick) (G_law_one : FnG P w K mg base k "_law_one" ["deck", "items"] sp_law_one) (G_law_body : FnG P w K mg base k "_law_body" ["deck", "readers", "deep", "left"] sp_law_body) (len : ∀ ds M Q E, sp ds M Q E → ds.length = 4)
    (hq : ∀ ds M Φ Ψ, sp ds M Φ Ψ → t_law_body sp_law_pick sp_law_one sp_law_body (endD M Φ) (startD n_law_body ds) M) : FnG P w K mg base (k + 1) "_law_body" ["deck", "readers", "deep", "left"] sp :=
  D.fnG (t_law_body sp_law_pick sp_law_one sp_law_body) sc_law_body len (fun J f cdv A outer s H E hr => d_law_body T G_law_pick G_law_one G_law_body J f cdv A outer s H E hr) hq

/-! _law_program -/
abbrev s_law_program : Stmt := top 39
abbrev n_law_program : List Str := ["deck", "limit", "readers", "left", "body"]
theorem sc_law_program : FnScope ["deck", "limit", "readers", "left", "body"] ["deck", "limit"] (defScope s_law_program) := ⟨rfl, rfl, rfl, by decide +kernel, rfl, by decide +kernel, by decide +kernel⟩
def t_law_program (sp_law_readers sp_law_body sp_law_pick : SpD) : TSd := (tdSeq (tdPar [2, 3, 4] (tdCons (tdCall sp_law_readers (tdCons (tdVar 0) tdNil)) (tdCons (tdLstM (tdCons (tdVar 1) tdNil)) (tdCons (tdTup tdNil) tdNil)))) (tdSeq (tdWhile (tdAnd (tdTest (tdOp dLt (tdCB dLen (tdCons (tdVar 4) tdNil)) (tdC (.int 3)))) (tdTest (tdOp dGt (tdOp dIxS (tdVar 3) (tdC (.int 0))) (tdC (.int 0))))) (tdSet 4 (tdOp dAdd (tdVar 4) (tdCall sp_law_body (tdCons (tdVar 0) (tdCons (tdVar 2) (tdCons (tdCall sp_law_pick (tdCons (tdVar 0) (tdCons (tdC (.int 4)) tdNil))) (tdCons (tdVar 3) tdNil)))))))) (tdRet (tdTup (tdCons (tdVar 2) (tdCons (tdVar 4) tdNil))))))
theorem d_law_program {sp_law_readers sp_law_body sp_law_pick : SpD} (T : Txt K mg) (G_law_readers : FnG P w K mg base k "_law_readers" ["deck"] sp_law_readers) (G_law_body : FnG P w K mg base k "_law_body" ["deck", "readers", "deep", "left"] sp_law_body) (G_law_pick : FnG P w K mg base k "_law_pick" ["deck", "limit"] sp_law_pick) (J : Jc) (f : Addr) (cdv : Value) (A : Around) (outer : List Env) (s : Shared) (H : Hp) (E : XK) (hr : Room k (A.deeper (PyProof.Rows.envOfC "_law_program" (defScope s_law_program) s.heap.objs.size f cdv))) :
    DSs J (cxOf CX0 P w K mg base ["deck", "limit", "readers", "left", "body"] "_law_program" (defScope s_law_program) f cdv A outer s H E).nox (defBody s_law_program) (t_law_program sp_law_readers sp_law_body sp_law_pick) :=
  have sc := sc_law_program
  (dss_cons (ds_par3 (i := 2) (j := 3) (l := 4) rfl sc.nd rfl rfl rfl (by decide) (by decide) (by decide) rfl rfl rfl (da_cons (de_callG G_law_readers hr rfl (da_cons (de_var (i := 0)) da_nil) (Nat.le_refl _)) (da_cons (de_lstM (da_cons (de_var (i := 1)) da_nil)) (da_cons (de_tup da_nil) da_nil))) (by rfl)) (dss_cons (ds_while PassesOwn.never (dt_w (dw_and (dt_cmp op_dLt (de_callB call_dLen rfl T.b_len bv_len (da_cons (de_var (i := 4)) da_nil)) de_int) (dw_and1 (dt_cmp op_dGt (de_ix (de_var (i := 3)) de_int) de_int)))) (dss_one (ds_set (i := 4) sc.nd rfl (by first | exact Or.inl rfl | exact Or.inr rfl) (de_op op_dAdd (de_var (i := 4)) (de_callG G_law_body hr rfl (da_cons (de_var (i := 0)) (da_cons (de_var (i := 2)) (da_cons (de_callG G_law_pick hr rfl (da_cons (de_var (i := 0)) (da_cons de_int da_nil)) (Nat.le_refl _)) (da_cons (de_var (i := 3)) da_nil)))) (Nat.le_refl _)))))) (dss_one (ds_ret (de_tup (da_cons (de_var (i := 2)) (da_cons (de_var (i := 4)) da_nil)))))))
theorem g_law_program {sp_law_readers sp_law_body sp_law_pick : SpD} {sp : SpD} (T : Txt K mg) (D : Dn K mg "_law_program" s_law_program ["deck", "limit"]) (G_law_readers : FnG P w K mg base k "_law_readers" ["deck"] sp_law_readers) (G_law_body : FnG P w K mg base k "_law_body" ["deck", "readers", "deep", "left"] sp_law_body) (G_law_pick : FnG P w K mg base k "_law_pick" ["deck", "limit"] sp_law_pick) (len : ∀ ds M Q E, sp ds M Q E → ds.length = 2)
    (hq : ∀ ds M Φ Ψ, sp ds M Φ Ψ → t_law_program sp_law_readers sp_law_body sp_law_pick (endD M Φ) (startD n_law_program ds) M) : FnG P w K mg base (k + 1) "_law_program" ["deck", "limit"] sp :=
  D.fnG (t_law_program sp_law_readers sp_law_body sp_law_pick) sc_law_program len (fun J f cdv A outer s H E hr => d_law_program T G_law_readers G_law_body G_law_pick J f cdv A outer s H E hr) hq

/-! _law_inner -/
abbrev s_law_inner : Stmt := top 40
abbrev n_law_inner : List Str := ["item"]
theorem sc_law_inner : FnScope ["item"] ["item"] (defScope s_law_inner) := ⟨rfl, rfl, rfl, by decide +kernel, rfl, by decide +kernel, by decide +kernel⟩
def t_law_inner : TSd := (tdSeq (tdIfS (tdTest (tdOp dIn (tdOp dIxS (tdVar 0) (tdC (.int 0))) (tdTup (tdCons (tdC (.str (q "if"))) (tdCons (tdC (.str (q "while"))) tdNil))))) (tdRet (tdSl (tdVar 0) (tdPart (tdC (.int 3))) tdNoPart)) tdNext) (tdRet (tdIf (tdTest (tdOp dEq (tdOp dIxS (tdVar 0) (tdC (.int 0))) (tdC (.str (q "call"))))) (tdSl (tdVar 0) (tdPart (tdC (.int 1))) tdNoPart) (tdTup tdNil))))
theorem d_law_inner (T : Txt K mg) (J : Jc) (f : Addr) (cdv : Value) (A : Around) (outer : List Env) (s : Shared) (H : Hp) (E : XK) (hr : Room k (A.deeper (PyProof.Rows.envOfC "_law_inner" (defScope s_law_inner) s.heap.objs.size f cdv))) :
    DSs J (cxOf CX0 P w K mg base ["item"] "_law_inner" (defScope s_law_inner) f cdv A outer s H E).nox (defBody s_law_inner) (t_law_inner) :=
  have sc := sc_law_inner
  (dss_cons (ds_if (dt_cmp (op_dIn (hu67 hr)) (de_ix (de_var (i := 0)) de_int) (de_tup (da_cons (de_str (s := "if")) (da_cons (de_str (s := "while")) da_nil))) (by rfl)) (dss_one (ds_ret (de_slice (de_var (i := 0)) (do_some de_int) do_none))) dss_nil) (dss_one (ds_ret (de_if (dt_cmp (op_dEq (hu66 hr)) (de_ix (de_var (i := 0)) de_int) (de_str (s := "call"))) (de_slice (de_var (i := 0)) (do_some de_int) do_none) (de_tup da_nil)))))
theorem g_law_inner {sp : SpD} (T : Txt K mg) (D : Dn K mg "_law_inner" s_law_inner ["item"]) (len : ∀ ds M Q E, sp ds M Q E → ds.length = 1)
    (hq : ∀ ds M Φ Ψ, sp ds M Φ Ψ → t_law_inner (endD M Φ) (startD n_law_inner ds) M) : FnG P w K mg base (k + 1) "_law_inner" ["item"] sp :=
  D.fnG (t_law_inner) sc_law_inner len (fun J f cdv A outer s H E hr => d_law_inner T J f cdv A outer s H E hr) hq

/-! _law_item_text -/
abbrev s_law_item_text : Stmt := top 41
abbrev n_law_item_text : List Str := ["item", "parts", "head", "words", "part"]
theorem sc_law_item_text : FnScope ["item", "parts", "head", "words", "part"] ["item"] (defScope s_law_item_text) := ⟨rfl, rfl, rfl, by decide +kernel, rfl, by decide +kernel, by decide +kernel⟩
def t_law_item_text (sp_law_inner sp_law_body_text : SpD) : TSd := (tdSeq (tdSet 1 (tdCall sp_law_inner (tdCons (tdVar 0) tdNil))) (tdSeq (tdSet 2 (tdSl (tdVar 0) tdNoPart (tdPart (tdOp dSub (tdCB dLen (tdCons (tdVar 0) tdNil)) (tdCB dLen (tdCons (tdVar 1) tdNil)))))) (tdSeq (tdSet 3 (tdBM "str" dJoin (tdC (.str (q " "))) (tdCons (tdLc (tdSeqI (tdVar 2)) (.one 4) tdYes (tdIf (tdTest (tdOp dNe (tdVar 4) (tdC (.str (q ""))))) (tdCB dStrC (tdCons (tdVar 4) tdNil)) (tdC (.str (q "end")))) [4]) tdNil))) (tdSeq (tdIfS (tdTest (tdOp dEq (tdVar 1) (tdTup tdNil))) (tdRet (tdVar 3)) tdNext) (tdRet (tdOp dAdd (tdOp dAdd (tdOp dAdd (tdVar 3) (tdC (.str (q " (")))) (tdBM "str" dJoin (tdC (.str (q " | "))) (tdCons (tdLc (tdSeqI (tdVar 1)) (.one 4) tdYes (tdCall sp_law_body_text (tdCons (tdVar 4) tdNil)) [4]) tdNil))) (tdC (.str (q ")")))))))))
theorem d_law_item_text {sp_law_inner sp_law_body_text : SpD} (T : Txt K mg) (G_law_inner : FnG P w K mg base k "_law_inner" ["item"] sp_law_inner) (G_law_body_text : FnG P w K mg base k "_law_body_text" ["body"] sp_law_body_text) (J : Jc) (f : Addr) (cdv : Value) (A : Around) (outer : List Env) (s : Shared) (H : Hp) (E : XK) (hr : Room k (A.deeper (PyProof.Rows.envOfC "_law_item_text" (defScope s_law_item_text) s.heap.objs.size f cdv))) :
    DSs J (cxOf CX0 P w K mg base ["item", "parts", "head", "words", "part"] "_law_item_text" (defScope s_law_item_text) f cdv A outer s H E).nox (defBody s_law_item_text) (t_law_item_text sp_law_inner sp_law_body_text) :=
  have sc := sc_law_item_text
  (dss_cons (ds_set (i := 1) sc.nd rfl (by first | exact Or.inl rfl | exact Or.inr rfl) (de_callG G_law_inner hr rfl (da_cons (de_var (i := 0)) da_nil) (Nat.le_refl _))) (dss_cons (ds_set (i := 2) sc.nd rfl (by first | exact Or.inl rfl | exact Or.inr rfl) (de_slice (de_var (i := 0)) do_none (do_some (de_op op_dSub (de_callB call_dLen rfl T.b_len bv_len (da_cons (de_var (i := 0)) da_nil)) (de_callB call_dLen rfl T.b_len bv_len (da_cons (de_var (i := 1)) da_nil)))))) (dss_cons (ds_set (i := 3) sc.nd rfl (by first | exact Or.inl rfl | exact Or.inr rfl) (de_bm PySem.F.plainAttrs_str PySem.F.slot_str_join PySem.F.type_str_join mt_dJoin (de_str (s := " ")) (da_cons (de_lcB false (own := [("part", 4)]) rfl sc.nd (di_seq (de_var (i := 2))) (blkOk_by (N := n_law_item_text) (sc := defScope s_law_item_text) (by decide +kernel)) (fun _ _ _ _ _ => (dtg_name (i := 4) sc.nd rfl (by first | exact Or.inl rfl | exact Or.inr rfl))) (fun _ _ _ _ _ => dts_nil) (fun _ _ _ _ _ => (de_if (dt_cmp (op_dNe (hu66 hr)) (de_var (i := 4)) (de_str (s := ""))) (de_callTy call_dStr rfl T.b_str bv_str (da_cons (de_var (i := 4)) da_nil)) (de_str (s := "end"))))) da_nil))) (dss_cons (ds_if (dt_cmp (op_dEq (hu66 hr)) (de_var (i := 1)) (de_tup da_nil)) (dss_one (ds_ret (de_var (i := 3)))) dss_nil) (dss_one (ds_ret (de_op op_dAdd (de_op op_dAdd (de_op op_dAdd (de_var (i := 3)) (de_str (s := " ("))) (de_bm PySem.F.plainAttrs_str PySem.F.slot_str_join PySem.F.type_str_join mt_dJoin (de_str (s := " | ")) (da_cons (de_lcB false (own := [("part", 4)]) rfl sc.nd (di_seq (de_var (i := 1))) (blkOk_by (N := n_law_item_text) (sc := defScope s_law_item_text) (by decide +kernel)) (fun _ _ _ _ _ => (dtg_name (i := 4) sc.nd rfl (by first | exact Or.inl rfl | exact Or.inr rfl))) (fun _ _ _ _ _ => dts_nil) (fun _ _ _ _ _ => (de_callG G_law_body_text hr rfl (da_cons (de_var (i := 4)) da_nil) (Nat.le_refl _)))) da_nil))) (de_str (s := ")")))))))))
theorem g_law_item_text {sp_law_inner sp_law_body_text : SpD} {sp : SpD} (T : Txt K mg) (D : Dn K mg "_law_item_text" s_law_item_text ["item"]) (G_law_inner : FnG P w K mg base k "_law_inner" ["item"] sp_law_inner) (G_law_body_text : FnG P w K mg base k "_law_body_text" ["body"] sp_law_body_text) (len : ∀ ds M Q E, sp ds M Q E → ds.length = 1)
    (hq : ∀ ds M Φ Ψ, sp ds M Φ Ψ → t_law_item_text sp_law_inner sp_law_body_text (endD M Φ) (startD n_law_item_text ds) M) : FnG P w K mg base (k + 1) "_law_item_text" ["item"] sp :=
  D.fnG (t_law_item_text sp_law_inner sp_law_body_text) sc_law_item_text len (fun J f cdv A outer s H E hr => d_law_item_text T G_law_inner G_law_body_text J f cdv A outer s H E hr) hq

/-! _law_body_text -/
abbrev s_law_body_text : Stmt := top 42
abbrev n_law_body_text : List Str := ["body", "item"]
theorem sc_law_body_text : FnScope ["body", "item"] ["body"] (defScope s_law_body_text) := ⟨rfl, rfl, rfl, by decide +kernel, rfl, by decide +kernel, by decide +kernel⟩
def t_law_body_text (sp_law_item_text : SpD) : TSd := (tdRet (tdBM "str" dJoin (tdC (.str (q "; "))) (tdCons (tdLc (tdSeqI (tdVar 0)) (.one 1) tdYes (tdCall sp_law_item_text (tdCons (tdVar 1) tdNil)) [1]) tdNil)))
theorem d_law_body_text {sp_law_item_text : SpD} (T : Txt K mg) (G_law_item_text : FnG P w K mg base k "_law_item_text" ["item"] sp_law_item_text) (J : Jc) (f : Addr) (cdv : Value) (A : Around) (outer : List Env) (s : Shared) (H : Hp) (E : XK) (hr : Room k (A.deeper (PyProof.Rows.envOfC "_law_body_text" (defScope s_law_body_text) s.heap.objs.size f cdv))) :
    DSs J (cxOf CX0 P w K mg base ["body", "item"] "_law_body_text" (defScope s_law_body_text) f cdv A outer s H E).nox (defBody s_law_body_text) (t_law_body_text sp_law_item_text) :=
  have sc := sc_law_body_text
  (dss_one (ds_ret (de_bm PySem.F.plainAttrs_str PySem.F.slot_str_join PySem.F.type_str_join mt_dJoin (de_str (s := "; ")) (da_cons (de_lcB false (own := [("item", 1)]) rfl sc.nd (di_seq (de_var (i := 0))) (blkOk_by (N := n_law_body_text) (sc := defScope s_law_body_text) (by decide +kernel)) (fun _ _ _ _ _ => (dtg_name (i := 1) sc.nd rfl (by first | exact Or.inl rfl | exact Or.inr rfl))) (fun _ _ _ _ _ => dts_nil) (fun _ _ _ _ _ => (de_callG G_law_item_text hr rfl (da_cons (de_var (i := 1)) da_nil) (Nat.le_refl _)))) da_nil))))
theorem g_law_body_text {sp_law_item_text : SpD} {sp : SpD} (T : Txt K mg) (D : Dn K mg "_law_body_text" s_law_body_text ["body"]) (G_law_item_text : FnG P w K mg base k "_law_item_text" ["item"] sp_law_item_text) (len : ∀ ds M Q E, sp ds M Q E → ds.length = 1)
    (hq : ∀ ds M Φ Ψ, sp ds M Φ Ψ → t_law_body_text sp_law_item_text (endD M Φ) (startD n_law_body_text ds) M) : FnG P w K mg base (k + 1) "_law_body_text" ["body"] sp :=
  D.fnG (t_law_body_text sp_law_item_text) sc_law_body_text len (fun J f cdv A outer s H E hr => d_law_body_text T G_law_item_text J f cdv A outer s H E hr) hq

/-! _law_text -/
abbrev s_law_text : Stmt := top 43
abbrev n_law_text : List Str := ["program", "name", "mode"]
theorem sc_law_text : FnScope ["program", "name", "mode"] ["program"] (defScope s_law_text) := ⟨rfl, rfl, rfl, by decide +kernel, rfl, by decide +kernel, by decide +kernel⟩
def t_law_text (sp_law_body_text : SpD) : TSd := (tdRet (tdOp dAdd (tdOp dAdd (tdBM "str" dJoin (tdC (.str (q ", "))) (tdCons (tdLc (tdSeqI (tdOp dIxS (tdVar 0) (tdC (.int 0)))) (.many [1, 2]) tdYes (tdOp dAdd (tdOp dAdd (tdVar 1) (tdC (.str (q " ")))) (tdVar 2)) [1, 2]) tdNil)) (tdC (.str (q "\n")))) (tdCall sp_law_body_text (tdCons (tdOp dIxS (tdVar 0) (tdC (.int 1))) tdNil))))
theorem d_law_text {sp_law_body_text : SpD} (T : Txt K mg) (G_law_body_text : FnG P w K mg base k "_law_body_text" ["body"] sp_law_body_text) (J : Jc) (f : Addr) (cdv : Value) (A : Around) (outer : List Env) (s : Shared) (H : Hp) (E : XK) (hr : Room k (A.deeper (PyProof.Rows.envOfC "_law_text" (defScope s_law_text) s.heap.objs.size f cdv))) :
    DSs J (cxOf CX0 P w K mg base ["program", "name", "mode"] "_law_text" (defScope s_law_text) f cdv A outer s H E).nox (defBody s_law_text) (t_law_text sp_law_body_text) :=
  have sc := sc_law_text
  (dss_one (ds_ret (de_op op_dAdd (de_op op_dAdd (de_bm PySem.F.plainAttrs_str PySem.F.slot_str_join PySem.F.type_str_join mt_dJoin (de_str (s := ", ")) (da_cons (de_lcB false (own := [("name", 1), ("mode", 2)]) rfl sc.nd (di_seq (de_ix (de_var (i := 0)) de_int)) (blkOk_by (N := n_law_text) (sc := defScope s_law_text) (by decide +kernel)) (fun _ _ _ _ _ => (dtg_tup (is := [1, 2]) rfl (pgs_cons (pg_name (i := 1) sc.nd rfl (by first | exact Or.inl rfl | exact Or.inr rfl)) (pgs_cons (pg_name (i := 2) sc.nd rfl (by first | exact Or.inl rfl | exact Or.inr rfl)) pgs_nil)))) (fun _ _ _ _ _ => dts_nil) (fun _ _ _ _ _ => (de_op op_dAdd (de_op op_dAdd (de_var (i := 1)) (de_str (s := " "))) (de_var (i := 2))))) da_nil)) (de_str (s := "\n"))) (de_callG G_law_body_text hr rfl (da_cons (de_ix (de_var (i := 0)) de_int) da_nil) (Nat.le_refl _)))))
theorem g_law_text {sp_law_body_text : SpD} {sp : SpD} (T : Txt K mg) (D : Dn K mg "_law_text" s_law_text ["program"]) (G_law_body_text : FnG P w K mg base k "_law_body_text" ["body"] sp_law_body_text) (len : ∀ ds M Q E, sp ds M Q E → ds.length = 1)
    (hq : ∀ ds M Φ Ψ, sp ds M Φ Ψ → t_law_text sp_law_body_text (endD M Φ) (startD n_law_text ds) M) : FnG P w K mg base (k + 1) "_law_text" ["program"] sp :=
  D.fnG (t_law_text sp_law_body_text) sc_law_text len (fun J f cdv A outer s H E hr => d_law_text T G_law_body_text J f cdv A outer s H E hr) hq

/-! _law_odd -/
abbrev s_law_odd : Stmt := top 44
abbrev n_law_odd : List Str := ["deck", "some"]
theorem sc_law_odd : FnScope ["deck", "some"] ["deck"] (defScope s_law_odd) := ⟨rfl, rfl, rfl, by decide +kernel, rfl, by decide +kernel, by decide +kernel⟩
def t_law_odd (sp_law_one : SpD) : TSd := (tdSeq (tdSet 1 (tdLstM (tdCons (tdC .non) (tdCons (tdC (.bl true)) (tdCons (tdC (.bl false)) (tdCons (tdC (.int 0)) (tdCons (tdC (.int 1)) (tdCons (tdC (.int 3)) (tdCons (tdC (.int 4)) (tdCons (tdNeg (tdC (.int 1))) (tdCons (tdOp dPow (tdC (.int 10)) (tdC (.int 30))) (tdCons (tdC (.str (q ""))) (tdCons (tdC (.str (q "n"))) (tdCons (tdC (.str (q "a"))) (tdCons (tdC (.str (q "b"))) (tdCons (tdC (.str (q "zz"))) (tdCons (tdC (.str (q "A"))) (tdCons (tdC (.str (q "abcdefgh"))) (tdCons (tdC (.str (q "abcdefghi"))) (tdCons (tdC (.str (q "ahead"))) tdNil)))))))))))))))))))) (tdSeq (tdSet 1 (tdAddM (tdVar 1) (tdLst (tdCons (tdC (.str (q "one"))) (tdCons (tdC (.str (q "take"))) (tdCons (tdC (.str (q "until"))) (tdCons (tdC (.str (q "if"))) (tdCons (tdC (.str (q "while"))) (tdCons (tdC (.str (q "call"))) (tdCons (tdC (.str (q "back"))) (tdCons (tdC (.str (q "give"))) (tdCons (tdC (.str (q "n "))) (tdCons (tdTup tdNil) (tdCons (tdLst tdNil) (tdCons (tdTup (tdCons (tdC (.str (q "a"))) (tdCons (tdC (.str (q "one"))) tdNil))) tdNil))))))))))))))) (tdSeq (tdDrop (tdBM "list" dAppend (tdVar 1) (tdCons (tdTup (tdCons (tdC (.str (q "call"))) (tdCons (tdTup tdNil) tdNil))) tdNil))) (tdRet (tdCall sp_law_one (tdCons (tdVar 0) (tdCons (tdOp dAdd (tdVar 1) (tdLst (tdCons (tdTup (tdCons (tdC (.str (q "take"))) (tdCons (tdC (.str (q "a"))) (tdCons (tdC (.int 1)) tdNil)))) (tdCons (tdTup (tdCons (tdC (.str (q "until"))) (tdCons (tdC (.str (q "a"))) (tdCons (tdC (.str (q "q"))) tdNil)))) (tdCons (tdTup (tdCons (tdC (.str (q "back"))) (tdCons (tdC (.str (q "a"))) tdNil))) (tdCons (tdTup (tdCons (tdTup (tdCons (tdC (.str (q "a"))) (tdCons (tdC (.str (q "one"))) tdNil))) tdNil)) tdNil)))))) tdNil)))))))
theorem d_law_odd {sp_law_one : SpD} (T : Txt K mg) (G_law_one : FnG P w K mg base k "_law_one" ["deck", "items"] sp_law_one) (J : Jc) (f : Addr) (cdv : Value) (A : Around) (outer : List Env) (s : Shared) (H : Hp) (E : XK) (hr : Room k (A.deeper (PyProof.Rows.envOfC "_law_odd" (defScope s_law_odd) s.heap.objs.size f cdv))) :
    DSs J (cxOf CX0 P w K mg base ["deck", "some"] "_law_odd" (defScope s_law_odd) f cdv A outer s H E).nox (defBody s_law_odd) (t_law_odd sp_law_one) :=
  have sc := sc_law_odd
  (dss_cons (ds_set (i := 1) sc.nd rfl (by first | exact Or.inl rfl | exact Or.inr rfl) (de_lstM (da_cons de_non (da_cons de_bl (da_cons de_bl (da_cons de_int (da_cons de_int (da_cons de_int (da_cons de_int (da_cons (de_neg de_int) (da_cons (de_op op_dPow de_int de_int) (da_cons (de_str (s := "")) (da_cons (de_str (s := "n")) (da_cons (de_str (s := "a")) (da_cons (de_str (s := "b")) (da_cons (de_str (s := "zz")) (da_cons (de_str (s := "A")) (da_cons (de_str (s := "abcdefgh")) (da_cons (de_str (s := "abcdefghi")) (da_cons (de_str (s := "ahead")) da_nil)))))))))))))))))))) (dss_cons (ds_set (i := 1) sc.nd rfl (by first | exact Or.inl rfl | exact Or.inr rfl) (de_opM (de_var (i := 1)) (de_lst (da_cons (de_str (s := "one")) (da_cons (de_str (s := "take")) (da_cons (de_str (s := "until")) (da_cons (de_str (s := "if")) (da_cons (de_str (s := "while")) (da_cons (de_str (s := "call")) (da_cons (de_str (s := "back")) (da_cons (de_str (s := "give")) (da_cons (de_str (s := "n ")) (da_cons (de_tup da_nil) (da_cons (de_lst da_nil) (da_cons (de_tup (da_cons (de_str (s := "a")) (da_cons (de_str (s := "one")) da_nil))) da_nil))))))))))))))) (dss_cons (ds_expr (de_bm PySem.F.plainAttrs_list PySem.F.slot_list_append PySem.F.type_list_append mt_dAppend (de_var (i := 1)) (da_cons (de_tup (da_cons (de_str (s := "call")) (da_cons (de_tup da_nil) da_nil))) da_nil))) (dss_one (ds_ret (de_callG G_law_one hr rfl (da_cons (de_var (i := 0)) (da_cons (de_op op_dAdd (de_var (i := 1)) (de_lst (da_cons (de_tup (da_cons (de_str (s := "take")) (da_cons (de_str (s := "a")) (da_cons de_int da_nil)))) (da_cons (de_tup (da_cons (de_str (s := "until")) (da_cons (de_str (s := "a")) (da_cons (de_str (s := "q")) da_nil)))) (da_cons (de_tup (da_cons (de_str (s := "back")) (da_cons (de_str (s := "a")) da_nil))) (da_cons (de_tup (da_cons (de_tup (da_cons (de_str (s := "a")) (da_cons (de_str (s := "one")) da_nil))) da_nil)) da_nil)))))) da_nil)) (Nat.le_refl _)))))))
theorem g_law_odd {sp_law_one : SpD} {sp : SpD} (T : Txt K mg) (D : Dn K mg "_law_odd" s_law_odd ["deck"]) (G_law_one : FnG P w K mg base k "_law_one" ["deck", "items"] sp_law_one) (len : ∀ ds M Q E, sp ds M Q E → ds.length = 1)
    (hq : ∀ ds M Φ Ψ, sp ds M Φ Ψ → t_law_odd sp_law_one (endD M Φ) (startD n_law_odd ds) M) : FnG P w K mg base (k + 1) "_law_odd" ["deck"] sp :=
  D.fnG (t_law_odd sp_law_one) sc_law_odd len (fun J f cdv A outer s H E hr => d_law_odd T G_law_one J f cdv A outer s H E hr) hq

/-! _law_is_label -/
abbrev s_law_is_label : Stmt := top 45
abbrev n_law_is_label : List Str := ["value", "sign"]
theorem sc_law_is_label : FnScope ["value", "sign"] ["value"] (defScope s_law_is_label) := ⟨rfl, rfl, rfl, by decide +kernel, rfl, by decide +kernel, by decide +kernel⟩
def t_law_is_label : TSd := (tdSeq (tdIfS (tdOr (tdNot (tdTruth (tdCB dIsi (tdCons (tdVar 0) (tdCons (tdC (.ty "str")) tdNil))))) (tdNot (tdTest (tdChain dLe dLe (tdC (.int 1)) (tdCB dLen (tdCons (tdVar 0) tdNil)) (tdC (.int 8)))))) (tdRet (tdC (.bl false))) tdNext) (tdRet (tdOp dEq (tdLc (tdSeqI (tdVar 0)) (.one 1) (tdTest (tdOp dNotIn (tdVar 1) (tdC (.str (q "abcdefghijklmnopqrstuvwxyz"))))) (tdVar 1) [1]) (tdLst tdNil))))
theorem d_law_is_label (T : Txt K mg) (J : Jc) (f : Addr) (cdv : Value) (A : Around) (outer : List Env) (s : Shared) (H : Hp) (E : XK) (hr : Room k (A.deeper (PyProof.Rows.envOfC "_law_is_label" (defScope s_law_is_label) s.heap.objs.size f cdv))) :
    DSs J (cxOf CX0 P w K mg base ["value", "sign"] "_law_is_label" (defScope s_law_is_label) f cdv A outer s H E).nox (defBody s_law_is_label) (t_law_is_label) :=
  have sc := sc_law_is_label
  (dss_cons (ds_if (dt_w (dw_or (dt_not (dt_truth (de_callB call_dIsi rfl T.b_isinstance bv_isinstance (da_cons (de_var (i := 0)) (da_cons (de_bltn rfl T.b_str bv_str) da_nil))))) (dw_or1 (dt_not (dt_chain op_dLe op_dLe de_int (de_callB call_dLen rfl T.b_len bv_len (da_cons (de_var (i := 0)) da_nil)) de_int))))) (dss_one (ds_ret de_bl)) dss_nil) (dss_one (ds_ret (de_cmp (op_dEq (hu66 hr)) (de_lcB false (own := [("sign", 1)]) rfl sc.nd (di_seq (de_var (i := 0))) (blkOk_by (N := n_law_is_label) (sc := defScope s_law_is_label) (by decide +kernel)) (fun _ _ _ _ _ => (dtg_name (i := 1) sc.nd rfl (by first | exact Or.inl rfl | exact Or.inr rfl))) (fun _ _ _ _ _ => (dts_one (dt_cmp (op_dNotIn (hu67 hr)) (de_var (i := 1)) (de_str (s := "abcdefghijklmnopqrstuvwxyz")) (by rfl)))) (fun _ _ _ _ _ => (de_var (i := 1)))) (de_lst da_nil)))))
theorem g_law_is_label {sp : SpD} (T : Txt K mg) (D : Dn K mg "_law_is_label" s_law_is_label ["value"]) (len : ∀ ds M Q E, sp ds M Q E → ds.length = 1)
    (hq : ∀ ds M Φ Ψ, sp ds M Φ Ψ → t_law_is_label (endD M Φ) (startD n_law_is_label ds) M) : FnG P w K mg base (k + 1) "_law_is_label" ["value"] sp :=
  D.fnG (t_law_is_label) sc_law_is_label len (fun J f cdv A outer s H E hr => d_law_is_label T J f cdv A outer s H E hr) hq

/-! _law_are_readers -/
abbrev s_law_are_readers : Stmt := top 46
abbrev n_law_are_readers : List Str := ["value", "reader", "at"]
theorem sc_law_are_readers : FnScope ["value", "reader", "at"] ["value"] (defScope s_law_are_readers) := ⟨rfl, rfl, rfl, by decide +kernel, rfl, by decide +kernel, by decide +kernel⟩
def t_law_are_readers (sp_law_is_label : SpD) : TSd := (tdSeq (tdIfS (tdOr (tdNot (tdTruth (tdCB dIsi (tdCons (tdVar 0) (tdCons (tdC (.ty "tuple")) tdNil))))) (tdNot (tdTest (tdChain dLe dLe (tdC (.int 1)) (tdCB dLen (tdCons (tdVar 0) tdNil)) (tdC (.int 4)))))) (tdRet (tdC (.bl false))) tdNext) (tdSeq (tdFor (tdSeqI (tdVar 0)) (.one 1) (tdSeq (tdIfS (tdOr (tdNot (tdTruth (tdCB dIsi (tdCons (tdVar 1) (tdCons (tdC (.ty "tuple")) tdNil))))) (tdOr (tdTest (tdOp dNe (tdCB dLen (tdCons (tdVar 1) tdNil)) (tdC (.int 2)))) (tdNot (tdTruth (tdCall sp_law_is_label (tdCons (tdOp dIxS (tdVar 1) (tdC (.int 0))) tdNil)))))) (tdRet (tdC (.bl false))) tdNext) (tdIfS (tdOr (tdNot (tdTruth (tdCB dIsi (tdCons (tdOp dIxS (tdVar 1) (tdC (.int 1))) (tdCons (tdC (.ty "str")) tdNil))))) (tdTest (tdOp dNotIn (tdOp dIxS (tdVar 1) (tdC (.int 1))) (tdTup (tdCons (tdC (.str (q "ahead"))) (tdCons (tdC (.str (q "one"))) tdNil)))))) (tdRet (tdC (.bl false))) tdNext))) (tdRet (tdOp dEq (tdLc (tdRng2 (tdCons (tdC (.int 1)) (tdCons (tdCB dLen (tdCons (tdVar 0) tdNil)) tdNil))) (.one 2) (tdTest (tdOp dGe (tdOp dIxS (tdOp dIxS (tdVar 0) (tdOp dSub (tdVar 2) (tdC (.int 1)))) (tdC (.int 0))) (tdOp dIxS (tdOp dIxS (tdVar 0) (tdVar 2)) (tdC (.int 0))))) (tdVar 2) [2]) (tdLst tdNil)))))
theorem d_law_are_readers {sp_law_is_label : SpD} (T : Txt K mg) (G_law_is_label : FnG P w K mg base k "_law_is_label" ["value"] sp_law_is_label) (J : Jc) (f : Addr) (cdv : Value) (A : Around) (outer : List Env) (s : Shared) (H : Hp) (E : XK) (hr : Room k (A.deeper (PyProof.Rows.envOfC "_law_are_readers" (defScope s_law_are_readers) s.heap.objs.size f cdv))) :
    DSs J (cxOf CX0 P w K mg base ["value", "reader", "at"] "_law_are_readers" (defScope s_law_are_readers) f cdv A outer s H E).nox (defBody s_law_are_readers) (t_law_are_readers sp_law_is_label) :=
  have sc := sc_law_are_readers
  (dss_cons (ds_if (dt_w (dw_or (dt_not (dt_truth (de_callB call_dIsi rfl T.b_isinstance bv_isinstance (da_cons (de_var (i := 0)) (da_cons (de_bltn rfl T.b_tuple bv_tuple) da_nil))))) (dw_or1 (dt_not (dt_chain op_dLe op_dLe de_int (de_callB call_dLen rfl T.b_len bv_len (da_cons (de_var (i := 0)) da_nil)) de_int))))) (dss_one (ds_ret de_bl)) dss_nil) (dss_cons (ds_for PassesOwn.never rfl (di_seq (de_var (i := 0))) (dtg_name (i := 1) sc.nd rfl (by first | exact Or.inl rfl | exact Or.inr rfl)) (dss_cons (ds_if (dt_w (dw_or (dt_not (dt_truth (de_callB call_dIsi rfl T.b_isinstance bv_isinstance (da_cons (de_var (i := 1)) (da_cons (de_bltn rfl T.b_tuple bv_tuple) da_nil))))) (dw_or (dt_cmp (op_dNe (hu66 hr)) (de_callB call_dLen rfl T.b_len bv_len (da_cons (de_var (i := 1)) da_nil)) de_int) (dw_or1 (dt_not (dt_truth (de_callG G_law_is_label hr rfl (da_cons (de_ix (de_var (i := 1)) de_int) da_nil) (Nat.le_refl _)))))))) (dss_one (ds_ret de_bl)) dss_nil) (dss_one (ds_if (dt_w (dw_or (dt_not (dt_truth (de_callB call_dIsi rfl T.b_isinstance bv_isinstance (da_cons (de_ix (de_var (i := 1)) de_int) (da_cons (de_bltn rfl T.b_str bv_str) da_nil))))) (dw_or1 (dt_cmp (op_dNotIn (hu67 hr)) (de_ix (de_var (i := 1)) de_int) (de_tup (da_cons (de_str (s := "ahead")) (da_cons (de_str (s := "one")) da_nil))) (by rfl))))) (dss_one (ds_ret de_bl)) dss_nil)))) (dss_one (ds_ret (de_cmp (op_dEq (hu66 hr)) (de_lcB false (own := [("at", 2)]) rfl sc.nd (di_range2 rfl T.b_range (da_cons de_int (da_cons (de_callB call_dLen rfl T.b_len bv_len (da_cons (de_var (i := 0)) da_nil)) da_nil))) (blkOk_by (N := n_law_are_readers) (sc := defScope s_law_are_readers) (by decide +kernel)) (fun _ _ _ _ _ => (dtg_name (i := 2) sc.nd rfl (by first | exact Or.inl rfl | exact Or.inr rfl))) (fun _ _ _ _ _ => (dts_one (dt_cmp op_dGe (de_ix (de_ix (de_var (i := 0)) (de_op op_dSub (de_var (i := 2)) de_int)) de_int) (de_ix (de_ix (de_var (i := 0)) (de_var (i := 2))) de_int)))) (fun _ _ _ _ _ => (de_var (i := 2)))) (de_lst da_nil))))))
theorem g_law_are_readers {sp_law_is_label : SpD} {sp : SpD} (T : Txt K mg) (D : Dn K mg "_law_are_readers" s_law_are_readers ["value"]) (G_law_is_label : FnG P w K mg base k "_law_is_label" ["value"] sp_law_is_label) (len : ∀ ds M Q E, sp ds M Q E → ds.length = 1)
    (hq : ∀ ds M Φ Ψ, sp ds M Φ Ψ → t_law_are_readers sp_law_is_label (endD M Φ) (startD n_law_are_readers ds) M) : FnG P w K mg base (k + 1) "_law_are_readers" ["value"] sp :=
  D.fnG (t_law_are_readers sp_law_is_label) sc_law_are_readers len (fun J f cdv A outer s H E hr => d_law_are_readers T G_law_is_label J f cdv A outer s H E hr) hq

/-! _law_is_mark -/
abbrev s_law_is_mark : Stmt := top 47
abbrev n_law_is_mark : List Str := ["value", "empty"]
theorem sc_law_is_mark : FnScope ["value", "empty"] ["value", "empty"] (defScope s_law_is_mark) := ⟨rfl, rfl, rfl, by decide +kernel, rfl, by decide +kernel, by decide +kernel⟩
def t_law_is_mark (sp_law_is_label : SpD) : TSd := (tdSeq (tdIfS (tdAnd (tdTruth (tdCB dIsi (tdCons (tdVar 0) (tdCons (tdC (.ty "str")) tdNil)))) (tdTest (tdOp dEq (tdVar 0) (tdC (.str (q "")))))) (tdRet (tdVar 1)) tdNext) (tdRet (tdAndV (tdCall sp_law_is_label (tdCons (tdVar 0) tdNil)) (tdOp dEq (tdCB dLen (tdCons (tdVar 0) tdNil)) (tdC (.int 1))))))
theorem d_law_is_mark {sp_law_is_label : SpD} (T : Txt K mg) (G_law_is_label : FnG P w K mg base k "_law_is_label" ["value"] sp_law_is_label) (J : Jc) (f : Addr) (cdv : Value) (A : Around) (outer : List Env) (s : Shared) (H : Hp) (E : XK) (hr : Room k (A.deeper (PyProof.Rows.envOfC "_law_is_mark" (defScope s_law_is_mark) s.heap.objs.size f cdv))) :
    DSs J (cxOf CX0 P w K mg base ["value", "empty"] "_law_is_mark" (defScope s_law_is_mark) f cdv A outer s H E).nox (defBody s_law_is_mark) (t_law_is_mark sp_law_is_label) :=
  have sc := sc_law_is_mark
  (dss_cons (ds_if (dt_w (dw_and (dt_truth (de_callB call_dIsi rfl T.b_isinstance bv_isinstance (da_cons (de_var (i := 0)) (da_cons (de_bltn rfl T.b_str bv_str) da_nil)))) (dw_and1 (dt_cmp (op_dEq (hu66 hr)) (de_var (i := 0)) (de_str (s := "")))))) (dss_one (ds_ret (de_var (i := 1)))) dss_nil) (dss_one (ds_ret (de_and (de_callG G_law_is_label hr rfl (da_cons (de_var (i := 0)) da_nil) (Nat.le_refl _)) (de_one (de_cmp (op_dEq (hu66 hr)) (de_callB call_dLen rfl T.b_len bv_len (da_cons (de_var (i := 0)) da_nil)) de_int))))))
theorem g_law_is_mark {sp_law_is_label : SpD} {sp : SpD} (T : Txt K mg) (D : Dn K mg "_law_is_mark" s_law_is_mark ["value", "empty"]) (G_law_is_label : FnG P w K mg base k "_law_is_label" ["value"] sp_law_is_label) (len : ∀ ds M Q E, sp ds M Q E → ds.length = 2)
    (hq : ∀ ds M Φ Ψ, sp ds M Φ Ψ → t_law_is_mark sp_law_is_label (endD M Φ) (startD n_law_is_mark ds) M) : FnG P w K mg base (k + 1) "_law_is_mark" ["value", "empty"] sp :=
  D.fnG (t_law_is_mark sp_law_is_label) sc_law_is_mark len (fun J f cdv A outer s H E hr => d_law_is_mark T G_law_is_label J f cdv A outer s H E hr) hq

/-! _law_is_simple -/
abbrev s_law_is_simple : Stmt := top 48
abbrev n_law_is_simple : List Str := ["names", "step"]
theorem sc_law_is_simple : FnScope ["names", "step"] ["names", "step"] (defScope s_law_is_simple) := ⟨rfl, rfl, rfl, by decide +kernel, rfl, by decide +kernel, by decide +kernel⟩
def t_law_is_simple (sp_law_is_mark : SpD) : TSd := (tdSeq (tdIfS (tdOr (tdTest (tdOp dLt (tdCB dLen (tdCons (tdVar 1) tdNil)) (tdC (.int 2)))) (tdOr (tdNot (tdTruth (tdCB dIsi (tdCons (tdOp dIxS (tdVar 1) (tdC (.int 1))) (tdCons (tdC (.ty "str")) tdNil))))) (tdTest (tdOp dNotIn (tdOp dIxS (tdVar 1) (tdC (.int 1))) (tdVar 0))))) (tdRet (tdC (.bl false))) tdNext) (tdSeq (tdIfS (tdTest (tdOp dEq (tdOp dIxS (tdVar 1) (tdC (.int 0))) (tdC (.str (q "back"))))) (tdRet (tdOp dEq (tdCB dLen (tdCons (tdVar 1) tdNil)) (tdC (.int 2)))) tdNext) (tdSeq (tdIfS (tdTest (tdOp dNe (tdCB dLen (tdCons (tdVar 1) tdNil)) (tdC (.int 3)))) (tdRet (tdC (.bl false))) tdNext) (tdSeq (tdIfS (tdTest (tdOp dEq (tdOp dIxS (tdVar 1) (tdC (.int 0))) (tdC (.str (q "take"))))) (tdRet (tdAndV (tdCB dIsi (tdCons (tdOp dIxS (tdVar 1) (tdC (.int 2))) (tdCons (tdC (.ty "int")) tdNil))) (tdAndV (tdNotV (tdCB dIsi (tdCons (tdOp dIxS (tdVar 1) (tdC (.int 2))) (tdCons (tdC (.ty "bool")) tdNil)))) (tdChain dLe dLe (tdC (.int 1)) (tdOp dIxS (tdVar 1) (tdC (.int 2))) (tdC (.int 3)))))) tdNext) (tdSeq (tdIfS (tdTest (tdOp dEq (tdOp dIxS (tdVar 1) (tdC (.int 0))) (tdC (.str (q "until"))))) (tdRet (tdCall sp_law_is_mark (tdCons (tdOp dIxS (tdVar 1) (tdC (.int 2))) (tdCons (tdC (.bl false)) tdNil)))) tdNext) (tdRet (tdAndV (tdOp dEq (tdOp dIxS (tdVar 1) (tdC (.int 0))) (tdC (.str (q "give")))) (tdAndV (tdCB dIsi (tdCons (tdOp dIxS (tdVar 1) (tdC (.int 2))) (tdCons (tdC (.ty "str")) tdNil))) (tdAndV (tdOp dIn (tdOp dIxS (tdVar 1) (tdC (.int 2))) (tdVar 0)) (tdOp dNe (tdOp dIxS (tdVar 1) (tdC (.int 2))) (tdOp dIxS (tdVar 1) (tdC (.int 1)))))))))))))
theorem d_law_is_simple {sp_law_is_mark : SpD} (T : Txt K mg) (G_law_is_mark : FnG P w K mg base k "_law_is_mark" ["value", "empty"] sp_law_is_mark) (J : Jc) (f : Addr) (cdv : Value) (A : Around) (outer : List Env) (s : Shared) (H : Hp) (E : XK) (hr : Room k (A.deeper (PyProof.Rows.envOfC "_law_is_simple" (defScope s_law_is_simple) s.heap.objs.size f cdv))) :
    DSs J (cxOf CX0 P w K mg base ["names", "step"] "_law_is_simple" (defScope s_law_is_simple) f cdv A outer s H E).nox (defBody s_law_is_simple) (t_law_is_simple sp_law_is_mark) :=
  have sc := sc_law_is_simple
  (dss_cons (ds_if (dt_w (dw_or (dt_cmp op_dLt (de_callB call_dLen rfl T.b_len bv_len (da_cons (de_var (i := 1)) da_nil)) de_int) (dw_or (dt_not (dt_truth (de_callB call_dIsi rfl T.b_isinstance bv_isinstance (da_cons (de_ix (de_var (i := 1)) de_int) (da_cons (de_bltn rfl T.b_str bv_str) da_nil))))) (dw_or1 (dt_cmp (op_dNotIn (hu67 hr)) (de_ix (de_var (i := 1)) de_int) (de_var (i := 0)) (by rfl)))))) (dss_one (ds_ret de_bl)) dss_nil) (dss_cons (ds_if (dt_cmp (op_dEq (hu66 hr)) (de_ix (de_var (i := 1)) de_int) (de_str (s := "back"))) (dss_one (ds_ret (de_cmp (op_dEq (hu66 hr)) (de_callB call_dLen rfl T.b_len bv_len (da_cons (de_var (i := 1)) da_nil)) de_int))) dss_nil) (dss_cons (ds_if (dt_cmp (op_dNe (hu66 hr)) (de_callB call_dLen rfl T.b_len bv_len (da_cons (de_var (i := 1)) da_nil)) de_int) (dss_one (ds_ret de_bl)) dss_nil) (dss_cons (ds_if (dt_cmp (op_dEq (hu66 hr)) (de_ix (de_var (i := 1)) de_int) (de_str (s := "take"))) (dss_one (ds_ret (de_and (de_callB call_dIsi rfl T.b_isinstance bv_isinstance (da_cons (de_ix (de_var (i := 1)) de_int) (da_cons (de_bltn rfl T.b_int bv_int) da_nil))) (de_and (de_not (de_callB call_dIsi rfl T.b_isinstance bv_isinstance (da_cons (de_ix (de_var (i := 1)) de_int) (da_cons (de_bltn rfl T.b_bool bv_bool) da_nil)))) (de_one (de_chain op_dLe op_dLe de_int (de_ix (de_var (i := 1)) de_int) de_int)))))) dss_nil) (dss_cons (ds_if (dt_cmp (op_dEq (hu66 hr)) (de_ix (de_var (i := 1)) de_int) (de_str (s := "until"))) (dss_one (ds_ret (de_callG G_law_is_mark hr rfl (da_cons (de_ix (de_var (i := 1)) de_int) (da_cons de_bl da_nil)) (Nat.le_refl _)))) dss_nil) (dss_one (ds_ret (de_and (de_cmp (op_dEq (hu66 hr)) (de_ix (de_var (i := 1)) de_int) (de_str (s := "give"))) (de_and (de_callB call_dIsi rfl T.b_isinstance bv_isinstance (da_cons (de_ix (de_var (i := 1)) de_int) (da_cons (de_bltn rfl T.b_str bv_str) da_nil))) (de_and (de_cmp (op_dIn (hu67 hr)) (de_ix (de_var (i := 1)) de_int) (de_var (i := 0)) (by rfl)) (de_one (de_cmp (op_dNe (hu66 hr)) (de_ix (de_var (i := 1)) de_int) (de_ix (de_var (i := 1)) de_int)))))))))))))
theorem g_law_is_simple {sp_law_is_mark : SpD} {sp : SpD} (T : Txt K mg) (D : Dn K mg "_law_is_simple" s_law_is_simple ["names", "step"]) (G_law_is_mark : FnG P w K mg base k "_law_is_mark" ["value", "empty"] sp_law_is_mark) (len : ∀ ds M Q E, sp ds M Q E → ds.length = 2)
    (hq : ∀ ds M Φ Ψ, sp ds M Φ Ψ → t_law_is_simple sp_law_is_mark (endD M Φ) (startD n_law_is_simple ds) M) : FnG P w K mg base (k + 1) "_law_is_simple" ["names", "step"] sp :=
  D.fnG (t_law_is_simple sp_law_is_mark) sc_law_is_simple len (fun J f cdv A outer s H E hr => d_law_is_simple T G_law_is_mark J f cdv A outer s H E hr) hq

/-! _law_size -/
abbrev s_law_size : Stmt := top 49
abbrev n_law_size : List Str := ["names", "body", "deep", "marks", "many", "step", "parts", "part", "more"]
theorem sc_law_size : FnScope ["names", "body", "deep", "marks", "many", "step", "parts", "part", "more"] ["names", "body", "deep", "marks"] (defScope s_law_size) := ⟨rfl, rfl, rfl, by decide +kernel, rfl, by decide +kernel, by decide +kernel⟩
def t_law_size (sp_law_is_mark sp_law_is_simple sp_law_size : SpD) : TSd := (tdSeq (tdIfS (tdOr (tdNot (tdTruth (tdCB dIsi (tdCons (tdVar 1) (tdCons (tdC (.ty "tuple")) tdNil))))) (tdTest (tdOp dGt (tdVar 2) (tdC (.int 8))))) (tdRet (tdC .non)) tdNext) (tdSeq (tdSet 4 (tdC (.int 0))) (tdSeq (tdFor (tdSeqI (tdVar 1)) (.one 5) (tdSeq (tdIfS (tdOr (tdNot (tdTruth (tdCB dIsi (tdCons (tdVar 5) (tdCons (tdC (.ty "tuple")) tdNil))))) (tdOr (tdTest (tdOp dEq (tdVar 5) (tdTup tdNil))) (tdNot (tdTruth (tdCB dIsi (tdCons (tdOp dIxS (tdVar 5) (tdC (.int 0))) (tdCons (tdC (.ty "str")) tdNil))))))) (tdRet (tdC .non)) tdNext) (tdSeq (tdSet 6 (tdTup tdNil)) (tdSeq (tdIfS (tdTest (tdOp dEq (tdOp dIxS (tdVar 5) (tdC (.int 0))) (tdC (.str (q "call"))))) (tdSeq (tdSet 6 (tdSl (tdVar 5) (tdPart (tdC (.int 1))) tdNoPart)) (tdIfS (tdTest (tdOp dNe (tdCB dLen (tdCons (tdVar 5) tdNil)) (tdC (.int 2)))) (tdRet (tdC .non)) tdNext)) (tdIfS (tdTest (tdOp dIn (tdOp dIxS (tdVar 5) (tdC (.int 0))) (tdTup (tdCons (tdC (.str (q "if"))) (tdCons (tdC (.str (q "while"))) tdNil))))) (tdSeq (tdSet 6 (tdSl (tdVar 5) (tdPart (tdC (.int 3))) tdNoPart)) (tdSeq (tdIfS (tdOr (tdTest (tdOp dNe (tdCB dLen (tdCons (tdVar 5) tdNil)) (tdDix [("if", 5), ("while", 4)] (tdOp dIxS (tdVar 5) (tdC (.int 0)))))) (tdOr (tdNot (tdTruth (tdCB dIsi (tdCons (tdOp dIxS (tdVar 5) (tdC (.int 1))) (tdCons (tdC (.ty "str")) tdNil))))) (tdTest (tdOp dNotIn (tdOp dIxS (tdVar 5) (tdC (.int 1))) (tdVar 0))))) (tdRet (tdC .non)) tdNext) (tdIfS (tdNot (tdTruth (tdCall sp_law_is_mark (tdCons (tdOp dIxS (tdVar 5) (tdC (.int 2))) (tdCons (tdC (.bl true)) tdNil))))) (tdRet (tdC .non)) tdNext))) (tdIfS (tdNot (tdTruth (tdCall sp_law_is_simple (tdCons (tdVar 0) (tdCons (tdVar 5) tdNil))))) (tdRet (tdC .non)) tdNext))) (tdSeq (tdIfS (tdAnd (tdTest (tdOp dIn (tdOp dIxS (tdVar 5) (tdC (.int 0))) (tdTup (tdCons (tdC (.str (q "until"))) (tdCons (tdC (.str (q "if"))) (tdCons (tdC (.str (q "while"))) tdNil)))))) (tdTest (tdOp dNe (tdOp dIxS (tdVar 5) (tdC (.int 2))) (tdC (.str (q "")))))) (tdDrop (tdBM "list" dAppend (tdVar 3) (tdCons (tdOp dIxS (tdVar 5) (tdC (.int 2))) tdNil))) tdNext) (tdSeq (tdSet 4 (tdOp dAdd (tdVar 4) (tdC (.int 1)))) (tdFor (tdSeqI (tdVar 6)) (.one 7) (tdSeq (tdSet 8 (tdCall sp_law_size (tdCons (tdVar 0) (tdCons (tdVar 7) (tdCons (tdOp dAdd (tdVar 2) (tdC (.int 1))) (tdCons (tdVar 3) tdNil)))))) (tdSeq (tdIfS (tdTest (tdOp dIsN (tdVar 8) (tdC .non))) (tdRet (tdC .non)) tdNext) (tdSet 4 (tdOp dAdd (tdVar 4) (tdVar 8)))))))))))) (tdRet (tdVar 4)))))
theorem d_law_size {sp_law_is_mark sp_law_is_simple sp_law_size : SpD} (T : Txt K mg) (G_law_is_mark : FnG P w K mg base k "_law_is_mark" ["value", "empty"] sp_law_is_mark) (G_law_is_simple : FnG P w K mg base k "_law_is_simple" ["names", "step"] sp_law_is_simple) (G_law_size : FnG P w K mg base k "_law_size" ["names", "body", "deep", "marks"] sp_law_size) (J : Jc) (f : Addr) (cdv : Value) (A : Around) (outer : List Env) (s : Shared) (H : Hp) (E : XK) (hr : Room k (A.deeper (PyProof.Rows.envOfC "_law_size" (defScope s_law_size) s.heap.objs.size f cdv))) :
    DSs J (cxOf CX0 P w K mg base ["names", "body", "deep", "marks", "many", "step", "parts", "part", "more"] "_law_size" (defScope s_law_size) f cdv A outer s H E).nox (defBody s_law_size) (t_law_size sp_law_is_mark sp_law_is_simple sp_law_size) :=
  have sc := sc_law_size
  (dss_cons (ds_if (dt_w (dw_or (dt_not (dt_truth (de_callB call_dIsi rfl T.b_isinstance bv_isinstance (da_cons (de_var (i := 1)) (da_cons (de_bltn rfl T.b_tuple bv_tuple) da_nil))))) (dw_or1 (dt_cmp op_dGt (de_var (i := 2)) de_int)))) (dss_one (ds_ret de_non)) dss_nil) (dss_cons (ds_set (i := 4) sc.nd rfl (by first | exact Or.inl rfl | exact Or.inr rfl) de_int) (dss_cons (ds_for PassesOwn.never rfl (di_seq (de_var (i := 1))) (dtg_name (i := 5) sc.nd rfl (by first | exact Or.inl rfl | exact Or.inr rfl)) (dss_cons (ds_if (dt_w (dw_or (dt_not (dt_truth (de_callB call_dIsi rfl T.b_isinstance bv_isinstance (da_cons (de_var (i := 5)) (da_cons (de_bltn rfl T.b_tuple bv_tuple) da_nil))))) (dw_or (dt_cmp (op_dEq (hu66 hr)) (de_var (i := 5)) (de_tup da_nil)) (dw_or1 (dt_not (dt_truth (de_callB call_dIsi rfl T.b_isinstance bv_isinstance (da_cons (de_ix (de_var (i := 5)) de_int) (da_cons (de_bltn rfl T.b_str bv_str) da_nil))))))))) (dss_one (ds_ret de_non)) dss_nil) (dss_cons (ds_set (i := 6) sc.nd rfl (by first | exact Or.inl rfl | exact Or.inr rfl) (de_tup da_nil)) (dss_cons (ds_if (dt_cmp (op_dEq (hu66 hr)) (de_ix (de_var (i := 5)) de_int) (de_str (s := "call"))) (dss_cons (ds_set (i := 6) sc.nd rfl (by first | exact Or.inl rfl | exact Or.inr rfl) (de_slice (de_var (i := 5)) (do_some de_int) do_none)) (dss_one (ds_if (dt_cmp (op_dNe (hu66 hr)) (de_callB call_dLen rfl T.b_len bv_len (da_cons (de_var (i := 5)) da_nil)) de_int) (dss_one (ds_ret de_non)) dss_nil))) (dss_one (ds_if (dt_cmp (op_dIn (hu67 hr)) (de_ix (de_var (i := 5)) de_int) (de_tup (da_cons (de_str (s := "if")) (da_cons (de_str (s := "while")) da_nil))) (by rfl)) (dss_cons (ds_set (i := 6) sc.nd rfl (by first | exact Or.inl rfl | exact Or.inr rfl) (de_slice (de_var (i := 5)) (do_some de_int) do_none)) (dss_cons (ds_if (dt_w (dw_or (dt_cmp (op_dNe (hu66 hr)) (de_callB call_dLen rfl T.b_len bv_len (da_cons (de_var (i := 5)) da_nil)) (de_dix (kvs := [("if", 5), ("while", 4)]) (hu1 hr) (pps_cons pe_str pe_int (pps_cons pe_str pe_int pps_nil)) (de_ix (de_var (i := 5)) de_int))) (dw_or (dt_not (dt_truth (de_callB call_dIsi rfl T.b_isinstance bv_isinstance (da_cons (de_ix (de_var (i := 5)) de_int) (da_cons (de_bltn rfl T.b_str bv_str) da_nil))))) (dw_or1 (dt_cmp (op_dNotIn (hu67 hr)) (de_ix (de_var (i := 5)) de_int) (de_var (i := 0)) (by rfl)))))) (dss_one (ds_ret de_non)) dss_nil) (dss_one (ds_if (dt_not (dt_truth (de_callG G_law_is_mark hr rfl (da_cons (de_ix (de_var (i := 5)) de_int) (da_cons de_bl da_nil)) (Nat.le_refl _)))) (dss_one (ds_ret de_non)) dss_nil)))) (dss_one (ds_if (dt_not (dt_truth (de_callG G_law_is_simple hr rfl (da_cons (de_var (i := 0)) (da_cons (de_var (i := 5)) da_nil)) (Nat.le_refl _)))) (dss_one (ds_ret de_non)) dss_nil))))) (dss_cons (ds_if (dt_w (dw_and (dt_cmp (op_dIn (hu67 hr)) (de_ix (de_var (i := 5)) de_int) (de_tup (da_cons (de_str (s := "until")) (da_cons (de_str (s := "if")) (da_cons (de_str (s := "while")) da_nil)))) (by rfl)) (dw_and1 (dt_cmp (op_dNe (hu66 hr)) (de_ix (de_var (i := 5)) de_int) (de_str (s := "")))))) (dss_one (ds_expr (de_bm PySem.F.plainAttrs_list PySem.F.slot_list_append PySem.F.type_list_append mt_dAppend (de_var (i := 3)) (da_cons (de_ix (de_var (i := 5)) de_int) da_nil)))) dss_nil) (dss_cons (ds_set (i := 4) sc.nd rfl (by first | exact Or.inl rfl | exact Or.inr rfl) (de_op op_dAdd (de_var (i := 4)) de_int)) (dss_one (ds_for PassesOwn.never rfl (di_seq (de_var (i := 6))) (dtg_name (i := 7) sc.nd rfl (by first | exact Or.inl rfl | exact Or.inr rfl)) (dss_cons (ds_set (i := 8) sc.nd rfl (by first | exact Or.inl rfl | exact Or.inr rfl) (de_callG G_law_size hr rfl (da_cons (de_var (i := 0)) (da_cons (de_var (i := 7)) (da_cons (de_op op_dAdd (de_var (i := 2)) de_int) (da_cons (de_var (i := 3)) da_nil)))) (Nat.le_refl _))) (dss_cons (ds_if (dt_cmp op_dIsN (de_var (i := 8)) de_non) (dss_one (ds_ret de_non)) dss_nil) (dss_one (ds_set (i := 4) sc.nd rfl (by first | exact Or.inl rfl | exact Or.inr rfl) (de_op op_dAdd (de_var (i := 4)) (de_var (i := 8))))))))))))))) (dss_one (ds_ret (de_var (i := 4)))))))
theorem g_law_size {sp_law_is_mark sp_law_is_simple sp_law_size : SpD} {sp : SpD} (T : Txt K mg) (D : Dn K mg "_law_size" s_law_size ["names", "body", "deep", "marks"]) (G_law_is_mark : FnG P w K mg base k "_law_is_mark" ["value", "empty"] sp_law_is_mark) (G_law_is_simple : FnG P w K mg base k "_law_is_simple" ["names", "step"] sp_law_is_simple) (G_law_size : FnG P w K mg base k "_law_size" ["names", "body", "deep", "marks"] sp_law_size) (len : ∀ ds M Q E, sp ds M Q E → ds.length = 4)
    (hq : ∀ ds M Φ Ψ, sp ds M Φ Ψ → t_law_size sp_law_is_mark sp_law_is_simple sp_law_size (endD M Φ) (startD n_law_size ds) M) : FnG P w K mg base (k + 1) "_law_size" ["names", "body", "deep", "marks"] sp :=
  D.fnG (t_law_size sp_law_is_mark sp_law_is_simple sp_law_size) sc_law_size len (fun J f cdv A outer s H E hr => d_law_size T G_law_is_mark G_law_is_simple G_law_size J f cdv A outer s H E hr) hq

/-! _law_is_program -/
abbrev s_law_is_program : Stmt := top 50
abbrev n_law_is_program : List Str := ["value", "marks", "many", "reader"]
theorem sc_law_is_program : FnScope ["value", "marks", "many", "reader"] ["value"] (defScope s_law_is_program) := ⟨rfl, rfl, rfl, by decide +kernel, rfl, by decide +kernel, by decide +kernel⟩
def t_law_is_program (sp_law_are_readers sp_law_size : SpD) : TSd := (tdSeq (tdIfS (tdOr (tdNot (tdTruth (tdCB dIsi (tdCons (tdVar 0) (tdCons (tdC (.ty "tuple")) tdNil))))) (tdOr (tdTest (tdOp dNe (tdCB dLen (tdCons (tdVar 0) tdNil)) (tdC (.int 2)))) (tdNot (tdTruth (tdCall sp_law_are_readers (tdCons (tdOp dIxS (tdVar 0) (tdC (.int 0))) tdNil)))))) (tdRet (tdC (.bl false))) tdNext) (tdSeq (tdSet 1 (tdLstM tdNil)) (tdSeq (tdSet 2 (tdCall sp_law_size (tdCons (tdLc (tdSeqI (tdOp dIxS (tdVar 0) (tdC (.int 0)))) (.one 3) tdYes (tdOp dIxS (tdVar 3) (tdC (.int 0))) [3]) (tdCons (tdOp dIxS (tdVar 0) (tdC (.int 1))) (tdCons (tdC (.int 1)) (tdCons (tdVar 1) tdNil)))))) (tdRet (tdAndV (tdOp dNotN (tdVar 2) (tdC .non)) (tdAndV (tdOp dLe (tdVar 2) (tdC (.int 40))) (tdOp dLe (tdLenSet (tdVar 1)) (tdC (.int 3)))))))))
theorem d_law_is_program {sp_law_are_readers sp_law_size : SpD} (T : Txt K mg) (G_law_are_readers : FnG P w K mg base k "_law_are_readers" ["value"] sp_law_are_readers) (G_law_size : FnG P w K mg base k "_law_size" ["names", "body", "deep", "marks"] sp_law_size) (J : Jc) (f : Addr) (cdv : Value) (A : Around) (outer : List Env) (s : Shared) (H : Hp) (E : XK) (hr : Room k (A.deeper (PyProof.Rows.envOfC "_law_is_program" (defScope s_law_is_program) s.heap.objs.size f cdv))) :
    DSs J (cxOf CX0 P w K mg base ["value", "marks", "many", "reader"] "_law_is_program" (defScope s_law_is_program) f cdv A outer s H E).nox (defBody s_law_is_program) (t_law_is_program sp_law_are_readers sp_law_size) :=
  have sc := sc_law_is_program
  (dss_cons (ds_if (dt_w (dw_or (dt_not (dt_truth (de_callB call_dIsi rfl T.b_isinstance bv_isinstance (da_cons (de_var (i := 0)) (da_cons (de_bltn rfl T.b_tuple bv_tuple) da_nil))))) (dw_or (dt_cmp (op_dNe (hu66 hr)) (de_callB call_dLen rfl T.b_len bv_len (da_cons (de_var (i := 0)) da_nil)) de_int) (dw_or1 (dt_not (dt_truth (de_callG G_law_are_readers hr rfl (da_cons (de_ix (de_var (i := 0)) de_int) da_nil) (Nat.le_refl _)))))))) (dss_one (ds_ret de_bl)) dss_nil) (dss_cons (ds_set (i := 1) sc.nd rfl (by first | exact Or.inl rfl | exact Or.inr rfl) (de_lstM da_nil)) (dss_cons (ds_set (i := 2) sc.nd rfl (by first | exact Or.inl rfl | exact Or.inr rfl) (de_callG G_law_size hr rfl (da_cons (de_lcB false (own := [("reader", 3)]) rfl sc.nd (di_seq (de_ix (de_var (i := 0)) de_int)) (blkOk_by (N := n_law_is_program) (sc := defScope s_law_is_program) (by decide +kernel)) (fun _ _ _ _ _ => (dtg_name (i := 3) sc.nd rfl (by first | exact Or.inl rfl | exact Or.inr rfl))) (fun _ _ _ _ _ => dts_nil) (fun _ _ _ _ _ => (de_ix (de_var (i := 3)) de_int))) (da_cons (de_ix (de_var (i := 0)) de_int) (da_cons de_int (da_cons (de_var (i := 1)) da_nil)))) (Nat.le_refl _))) (dss_one (ds_ret (de_and (de_cmp op_dNotN (de_var (i := 2)) de_non) (de_and (de_cmp op_dLe (de_var (i := 2)) de_int) (de_one (de_cmp op_dLe (de_lenSet rfl rfl T.b_len rfl T.b_set (de_var (i := 1))) de_int)))))))))
theorem g_law_is_program {sp_law_are_readers sp_law_size : SpD} {sp : SpD} (T : Txt K mg) (D : Dn K mg "_law_is_program" s_law_is_program ["value"]) (G_law_are_readers : FnG P w K mg base k "_law_are_readers" ["value"] sp_law_are_readers) (G_law_size : FnG P w K mg base k "_law_size" ["names", "body", "deep", "marks"] sp_law_size) (len : ∀ ds M Q E, sp ds M Q E → ds.length = 1)
    (hq : ∀ ds M Φ Ψ, sp ds M Φ Ψ → t_law_is_program sp_law_are_readers sp_law_size (endD M Φ) (startD n_law_is_program ds) M) : FnG P w K mg base (k + 1) "_law_is_program" ["value"] sp :=
  D.fnG (t_law_is_program sp_law_are_readers sp_law_size) sc_law_is_program len (fun J f cdv A outer s H E hr => d_law_is_program T G_law_are_readers G_law_size J f cdv A outer s H E hr) hq

/-! _law_read -/
abbrev s_law_read : Stmt := top 51
abbrev n_law_read : List Str := ["value"]
theorem sc_law_read : FnScope ["value"] ["value"] (defScope s_law_read) := ⟨rfl, rfl, rfl, by decide +kernel, rfl, by decide +kernel, by decide +kernel⟩
def t_law_read (sp_read_program : SpD) : TSd := (tdTry xsub (fun Ψ' => (tdRet (tdCallS sp_read_program Ψ' (tdCons (tdVar 0) tdNil)))) [("InvalidText", (tdRet (tdC (.str (q "refused"))))), ("ReadError", (tdRet (tdC (.str (q "else")))))])
theorem d_law_read {sp_read_program : SpD} (T : Txt K mg) (G_read_program : FnGX P w K mg base k "read_program" ["text"] sp_read_program) (J : Jc) (f : Addr) (cdv : Value) (A : Around) (outer : List Env) (s : Shared) (H : Hp) (E : XK) (hr : Room k (A.deeper (PyProof.Rows.envOfC "_law_read" (defScope s_law_read) s.heap.objs.size f cdv))) :
    DSs J (cxOf CX0 P w K mg base ["value"] "_law_read" (defScope s_law_read) f cdv A outer s H E).nox (defBody s_law_read) (t_law_read sp_read_program) :=
  have sc := sc_law_read
  (dss_one (ds_try T.x_sub rfl rfl (fun J W' Ψ' pn xe th' po' => (dss_one (ds_ret (de_callS G_read_program hr rfl th' (da_cons (de_var (i := 0)) da_nil) (Nat.le_refl _))))) (.cons (NamesD2 rfl T.k_InvalidText) (fun J a oe pn => (dss_one (ds_ret (de_str (s := "refused"))))) (.cons (NamesD2 rfl T.k_ReadError) (fun J a oe pn => (dss_one (ds_ret (de_str (s := "else"))))) .nil))))
theorem g_law_read {sp_read_program : SpD} {sp : SpD} (T : Txt K mg) (D : Dn K mg "_law_read" s_law_read ["value"]) (G_read_program : FnGX P w K mg base k "read_program" ["text"] sp_read_program) (len : ∀ ds M Q E, sp ds M Q E → ds.length = 1)
    (hq : ∀ ds M Φ Ψ, sp ds M Φ Ψ → t_law_read sp_read_program (endD M Φ) (startD n_law_read ds) M) : FnG P w K mg base (k + 1) "_law_read" ["value"] sp :=
  D.fnG (t_law_read sp_read_program) sc_law_read len (fun J f cdv A outer s H E hr => d_law_read T G_read_program J f cdv A outer s H E hr) hq

/-! _law_spoilt -/
abbrev s_law_spoilt : Stmt := top 52
abbrev n_law_spoilt : List Str := ["deck", "text", "at", "signs", "way"]
theorem sc_law_spoilt : FnScope ["deck", "text", "at", "signs", "way"] ["deck", "text"] (defScope s_law_spoilt) := ⟨rfl, rfl, rfl, by decide +kernel, rfl, by decide +kernel, by decide +kernel⟩
def t_law_spoilt (sp_law_pick sp_law_one : SpD) : TSd := (tdSeq (tdPar [2, 3] (tdCons (tdCall sp_law_pick (tdCons (tdVar 0) (tdCons (tdOp dAdd (tdCB dLen (tdCons (tdVar 1) tdNil)) (tdC (.int 1))) tdNil))) (tdCons (tdC (.str (q " ,;|()\nanb104"))) tdNil))) (tdSeq (tdSet 4 (tdCall sp_law_pick (tdCons (tdVar 0) (tdCons (tdC (.int 4)) tdNil)))) (tdSeq (tdIfS (tdTest (tdOp dEq (tdVar 4) (tdC (.int 0)))) (tdRet (tdOp dAdd (tdSl (tdVar 1) tdNoPart (tdPart (tdVar 2))) (tdSl (tdVar 1) (tdPart (tdOp dAdd (tdVar 2) (tdC (.int 1)))) tdNoPart))) tdNext) (tdSeq (tdIfS (tdTest (tdOp dEq (tdVar 4) (tdC (.int 1)))) (tdRet (tdOp dAdd (tdOp dAdd (tdSl (tdVar 1) tdNoPart (tdPart (tdVar 2))) (tdCall sp_law_one (tdCons (tdVar 0) (tdCons (tdVar 3) tdNil)))) (tdSl (tdVar 1) (tdPart (tdVar 2)) tdNoPart))) tdNext) (tdSeq (tdIfS (tdTest (tdOp dEq (tdVar 4) (tdC (.int 2)))) (tdRet (tdOp dAdd (tdOp dAdd (tdSl (tdVar 1) tdNoPart (tdPart (tdVar 2))) (tdCall sp_law_one (tdCons (tdVar 0) (tdCons (tdVar 3) tdNil)))) (tdSl (tdVar 1) (tdPart (tdOp dAdd (tdVar 2) (tdC (.int 1)))) tdNoPart))) tdNext) (tdRet (tdOp dAdd (tdSl (tdVar 1) tdNoPart (tdPart (tdVar 2))) (tdRepl1 sp_law_one ["end", "take", "one", "; ", "until"] "back" (tdSl (tdVar 1) (tdPart (tdVar 2)) tdNoPart) (tdVar 0)))))))))
theorem d_law_spoilt {sp_law_pick sp_law_one : SpD} (T : Txt K mg) (G_law_pick : FnG P w K mg base k "_law_pick" ["deck", "limit"] sp_law_pick) (G_law_one : FnG P w K mg base k "_law_one" ["deck", "items"] sp_law_one) (GI_law_one : FnI P w K mg base k "_law_one" sp_law_one) (J : Jc) (f : Addr) (cdv : Value) (A : Around) (outer : List Env) (s : Shared) (H : Hp) (E : XK) (hr : Room k (A.deeper (PyProof.Rows.envOfC "_law_spoilt" (defScope s_law_spoilt) s.heap.objs.size f cdv))) :
    DSs J (cxOf CX0 P w K mg base ["deck", "text", "at", "signs", "way"] "_law_spoilt" (defScope s_law_spoilt) f cdv A outer s H E).nox (defBody s_law_spoilt) (t_law_spoilt sp_law_pick sp_law_one) :=
  have sc := sc_law_spoilt
  (dss_cons (ds_par (i := 2) (j := 3) rfl sc.nd rfl rfl (by decide) rfl rfl (da_cons (de_callG G_law_pick hr rfl (da_cons (de_var (i := 0)) (da_cons (de_op op_dAdd (de_callB call_dLen rfl T.b_len bv_len (da_cons (de_var (i := 1)) da_nil)) de_int) da_nil)) (Nat.le_refl _)) (da_cons (de_str (s := " ,;|()\nanb104")) da_nil)) (by rfl)) (dss_cons (ds_set (i := 4) sc.nd rfl (by first | exact Or.inl rfl | exact Or.inr rfl) (de_callG G_law_pick hr rfl (da_cons (de_var (i := 0)) (da_cons de_int da_nil)) (Nat.le_refl _))) (dss_cons (ds_if (dt_cmp (op_dEq (hu66 hr)) (de_var (i := 4)) de_int) (dss_one (ds_ret (de_op op_dAdd (de_slice (de_var (i := 1)) do_none (do_some (de_var (i := 2)))) (de_slice (de_var (i := 1)) (do_some (de_op op_dAdd (de_var (i := 2)) de_int)) do_none)))) dss_nil) (dss_cons (ds_if (dt_cmp (op_dEq (hu66 hr)) (de_var (i := 4)) de_int) (dss_one (ds_ret (de_op op_dAdd (de_op op_dAdd (de_slice (de_var (i := 1)) do_none (do_some (de_var (i := 2)))) (de_callG G_law_one hr rfl (da_cons (de_var (i := 0)) (da_cons (de_var (i := 3)) da_nil)) (Nat.le_refl _))) (de_slice (de_var (i := 1)) (do_some (de_var (i := 2))) do_none)))) dss_nil) (dss_consO (dso_if (op_dEq (hu66 hr)) (de_var (i := 4)) (dss_one (ds_ret (de_op op_dAdd (de_op op_dAdd (de_slice (de_var (i := 1)) do_none (do_some (de_var (i := 2)))) (de_callG G_law_one hr rfl (da_cons (de_var (i := 0)) (da_cons (de_var (i := 3)) da_nil)) (Nat.le_refl _))) (de_slice (de_var (i := 1)) (do_some (de_op op_dAdd (de_var (i := 2)) de_int)) do_none)))) dss_nil) (dsst_ret (det_op op_dAdd (det_of (de_slice (de_var (i := 1)) do_none (do_some (de_var (i := 2))))) (det_repl1 (z := "back") GI_law_one hr rfl (de_slice (de_var (i := 1)) (do_some (de_var (i := 2))) do_none) (de_var (i := 0)) (.cons (s := "end") (.cons (s := "take") (.cons (s := "one") (.cons (s := "; ") (.cons (s := "until") .nil))))) (by decide)))))))))
theorem g_law_spoilt {sp_law_pick sp_law_one : SpD} {sp : SpD} (T : Txt K mg) (D : Dn K mg "_law_spoilt" s_law_spoilt ["deck", "text"]) (G_law_pick : FnG P w K mg base k "_law_pick" ["deck", "limit"] sp_law_pick) (G_law_one : FnG P w K mg base k "_law_one" ["deck", "items"] sp_law_one) (GI_law_one : FnI P w K mg base k "_law_one" sp_law_one) (len : ∀ ds M Q E, sp ds M Q E → ds.length = 2)
    (hq : ∀ ds M Φ Ψ, sp ds M Φ Ψ → t_law_spoilt sp_law_pick sp_law_one (endD M Φ) (startD n_law_spoilt ds) M) : FnG P w K mg base (k + 1) "_law_spoilt" ["deck", "text"] sp :=
  D.fnG (t_law_spoilt sp_law_pick sp_law_one) sc_law_spoilt len (fun J f cdv A outer s H E hr => d_law_spoilt T G_law_pick G_law_one GI_law_one J f cdv A outer s H E hr) hq

/-! law -/
abbrev s_law : Stmt := top 53
abbrev n_law : List Str := ["script", "cell", "deck", "turn", "program", "text", "more", "found", "odd", "rows", "good", "heads", "head", "row"]
theorem sc_law : FnScope ["script", "cell", "deck", "turn", "program", "text", "more", "found", "odd", "rows", "good", "heads", "head", "row"] ["script"] (defScope s_law) := ⟨rfl, rfl, rfl, by decide +kernel, rfl, by decide +kernel, by decide +kernel⟩
def t_law (sp_law_deck sp_law_program sp_law_text sp_law_pick sp_law_spoilt sp_law_read sp_law_is_program sp_law_odd : SpD) : TSd := (tdSeq (tdFor (tdSeqI (tdSl (tdOp dAdd (tdLst (tdCons (tdC (.int 0)) tdNil)) (tdVar 0)) tdNoPart (tdPart (tdC (.int 6))))) (.one 1) (tdSeq (tdSet 2 (tdCall sp_law_deck (tdCons (tdVar 1) (tdCons (tdC (.int 93)) tdNil)))) (tdSeq (tdFor (tdRng1 (tdCons (tdC (.int 12)) tdNil)) (.one 3) (tdSeq (tdSet 4 (tdCall sp_law_program (tdCons (tdVar 2) (tdCons (tdC (.int 8)) tdNil)))) (tdSeq (tdSet 5 (tdCall sp_law_text (tdCons (tdVar 4) tdNil))) (tdSeq (tdFor (tdRng1 (tdCons (tdOp dAdd (tdC (.int 1)) (tdCall sp_law_pick (tdCons (tdVar 2) (tdCons (tdC (.int 2)) tdNil)))) tdNil)) (.one 6) (tdSet 5 (tdCall sp_law_spoilt (tdCons (tdVar 2) (tdCons (tdVar 5) tdNil))))) (tdSeq (tdSet 7 (tdCall sp_law_read (tdCons (tdVar 5) tdNil))) (tdIfS (tdTest (tdOp dEq (tdVar 7) (tdC (.str (q "refused"))))) (tdIfS (tdTest (tdOp dEq (tdVar 5) (tdCall sp_law_text (tdCons (tdVar 4) tdNil)))) (tdRet (tdC (.bl false))) tdNext) (tdIfS (tdOr (tdNot (tdTruth (tdCall sp_law_is_program (tdCons (tdVar 7) tdNil)))) (tdTest (tdOp dNe (tdCall sp_law_text (tdCons (tdVar 7) tdNil)) (tdVar 5)))) (tdRet (tdC (.bl false))) tdNext))))))) (tdSeq (tdSet 8 (tdCall sp_law_odd (tdCons (tdVar 2) tdNil))) (tdIfS (tdOr (tdTest (tdOp dNe (tdCall sp_law_read (tdCons (tdVar 8) tdNil)) (tdC (.str (q "refused"))))) (tdTest (tdOp dNe (tdCall sp_law_read (tdCons (tdLst (tdCons (tdCall sp_law_text (tdCons (tdVar 4) tdNil)) tdNil)) tdNil)) (tdC (.str (q "refused")))))) (tdRet (tdC (.bl false))) tdNext))))) (tdSeq (tdSet 9 (tdBM "str" dSplit (tdC (.str (q "take a 01!take a 0!take a 4!take  a 1! take a 1!take a 1 !take a 1;"))) (tdCons (tdC (.str (q "!"))) tdNil))) (tdSeq (tdSet 9 (tdAddM (tdVar 9) (tdBM "str" dSplit (tdC (.str (q "take a 1;take b 1!until a end!until a nn!if a n ()!if a n (|)"))) (tdCons (tdC (.str (q "!"))) tdNil)))) (tdSeq (tdSet 9 (tdAddM (tdVar 9) (tdBM "str" dSplit (tdC (.str (q "while a (take a 1)!while a end!call!call()!call ()()!give a a!(take a 1)"))) (tdCons (tdC (.str (q "!"))) tdNil)))) (tdSeq (tdSet 9 (tdAddM (tdVar 9) (tdBM "str" dSplit (tdC (.str (q "call (take a 1!call (take a 1))!back c!while a n ( | )!take a"))) (tdCons (tdC (.str (q "!"))) tdNil)))) (tdSeq (tdDrop (tdBM "list" dAppend (tdVar 9) (tdCons (tdOp dAdd (tdOp dMul (tdC (.str (q "call ("))) (tdC (.int 9))) (tdOp dMul (tdC (.str (q ")"))) (tdC (.int 9)))) tdNil))) (tdSeq (tdIfS (tdTest (tdOp dNe (tdLc (tdSeqI (tdVar 9)) (.one 13) (tdTest (tdOp dNe (tdCall sp_law_read (tdCons (tdOp dAdd (tdC (.str (q "a one, b ahead\n"))) (tdVar 13)) tdNil)) (tdC (.str (q "refused"))))) (tdVar 13) [13]) (tdLst tdNil))) (tdRet (tdC (.bl false))) tdNext) (tdSeq (tdSet 10 (tdBM "str" dSplit (tdC (.str (q "!take a 1; take b 3!if a end ( | )!if a n (take a 1 | )!while b end ()"))) (tdCons (tdC (.str (q "!"))) tdNil))) (tdSeq (tdSet 10 (tdOp dAdd (tdVar 10) (tdBM "str" dSplit (tdC (.str (q "call ()!call (call (back a))"))) (tdCons (tdC (.str (q "!"))) tdNil)))) (tdSeq (tdIfS (tdTest (tdOp dNe (tdLc (tdSeqI (tdVar 10)) (.one 13) (tdTest (tdOp dEq (tdCall sp_law_read (tdCons (tdOp dAdd (tdC (.str (q "a one, b ahead\n"))) (tdVar 13)) tdNil)) (tdC (.str (q "refused"))))) (tdVar 13) [13]) (tdLst tdNil))) (tdRet (tdC (.bl false))) tdNext) (tdSeq (tdSet 11 (tdBM "str" dSplit (tdC (.str (q "!a!a one b one!b one, a one!a one,b one!a two!a one, a one!a one, !A one"))) (tdCons (tdC (.str (q "!"))) tdNil))) (tdSeq (tdSet 11 (tdOp dAdd (tdVar 11) (tdBM "str" dSplit (tdC (.str (q "a one#"))) (tdCons (tdC (.str (q "!"))) tdNil)))) (tdSeq (tdSet 11 (tdLc (tdSeqI (tdVar 11)) (.one 12) tdYes (tdReplC "#" "\n" (tdVar 12)) [12])) (tdRet (tdOp dEq (tdLc (tdSeqI (tdVar 11)) (.one 12) (tdTest (tdOp dNe (tdCall sp_law_read (tdCons (tdOp dAdd (tdVar 12) (tdC (.str (q "\nback a")))) tdNil)) (tdC (.str (q "refused"))))) (tdVar 12) [12]) (tdLst tdNil))))))))))))))))
theorem d_law {sp_law_deck sp_law_program sp_law_text sp_law_pick sp_law_spoilt sp_law_read sp_law_is_program sp_law_odd : SpD} (T : Txt K mg) (G_law_deck : FnG P w K mg base k "_law_deck" ["cell", "turn"] sp_law_deck) (G_law_program : FnG P w K mg base k "_law_program" ["deck", "limit"] sp_law_program) (G_law_text : FnG P w K mg base k "_law_text" ["program"] sp_law_text) (G_law_pick : FnG P w K mg base k "_law_pick" ["deck", "limit"] sp_law_pick) (G_law_spoilt : FnG P w K mg base k "_law_spoilt" ["deck", "text"] sp_law_spoilt) (G_law_read : FnG P w K mg base k "_law_read" ["value"] sp_law_read) (G_law_is_program : FnG P w K mg base k "_law_is_program" ["value"] sp_law_is_program) (G_law_odd : FnG P w K mg base k "_law_odd" ["deck"] sp_law_odd) (J : Jc) (f : Addr) (cdv : Value) (A : Around) (outer : List Env) (s : Shared) (H : Hp) (E : XK) (hr : Room k (A.deeper (PyProof.Rows.envOfC "law" (defScope s_law) s.heap.objs.size f cdv))) :
    DSs J (cxOf CX0 P w K mg base ["script", "cell", "deck", "turn", "program", "text", "more", "found", "odd", "rows", "good", "heads", "head", "row"] "law" (defScope s_law) f cdv A outer s H E).nox (defBody s_law) (t_law sp_law_deck sp_law_program sp_law_text sp_law_pick sp_law_spoilt sp_law_read sp_law_is_program sp_law_odd) :=
  have sc := sc_law
  (dss_cons (ds_for PassesOwn.never rfl (di_seq (de_slice (de_op op_dAdd (de_lst (da_cons de_int da_nil)) (de_var (i := 0))) do_none (do_some de_int))) (dtg_name (i := 1) sc.nd rfl (by first | exact Or.inl rfl | exact Or.inr rfl)) (dss_cons (ds_set (i := 2) sc.nd rfl (by first | exact Or.inl rfl | exact Or.inr rfl) (de_callG G_law_deck hr rfl (da_cons (de_var (i := 1)) (da_cons de_int da_nil)) (Nat.le_refl _))) (dss_cons (ds_for PassesOwn.never rfl (di_range1 rfl T.b_range (da_cons de_int da_nil)) (dtg_name (i := 3) sc.nd rfl (by first | exact Or.inl rfl | exact Or.inr rfl)) (dss_cons (ds_set (i := 4) sc.nd rfl (by first | exact Or.inl rfl | exact Or.inr rfl) (de_callG G_law_program hr rfl (da_cons (de_var (i := 2)) (da_cons de_int da_nil)) (Nat.le_refl _))) (dss_cons (ds_set (i := 5) sc.nd rfl (by first | exact Or.inl rfl | exact Or.inr rfl) (de_callG G_law_text hr rfl (da_cons (de_var (i := 4)) da_nil) (Nat.le_refl _))) (dss_cons (ds_for PassesOwn.never rfl (di_range1 rfl T.b_range (da_cons (de_op op_dAdd de_int (de_callG G_law_pick hr rfl (da_cons (de_var (i := 2)) (da_cons de_int da_nil)) (Nat.le_refl _))) da_nil)) (dtg_name (i := 6) sc.nd rfl (by first | exact Or.inl rfl | exact Or.inr rfl)) (dss_one (ds_set (i := 5) sc.nd rfl (by first | exact Or.inl rfl | exact Or.inr rfl) (de_callG G_law_spoilt hr rfl (da_cons (de_var (i := 2)) (da_cons (de_var (i := 5)) da_nil)) (Nat.le_refl _))))) (dss_cons (ds_set (i := 7) sc.nd rfl (by first | exact Or.inl rfl | exact Or.inr rfl) (de_callG G_law_read hr rfl (da_cons (de_var (i := 5)) da_nil) (Nat.le_refl _))) (dss_one (ds_if (dt_cmp (op_dEq (hu66 hr)) (de_var (i := 7)) (de_str (s := "refused"))) (dss_one (ds_if (dt_cmp (op_dEq (hu66 hr)) (de_var (i := 5)) (de_callG G_law_text hr rfl (da_cons (de_var (i := 4)) da_nil) (Nat.le_refl _))) (dss_one (ds_ret de_bl)) dss_nil)) (dss_one (ds_if (dt_w (dw_or (dt_not (dt_truth (de_callG G_law_is_program hr rfl (da_cons (de_var (i := 7)) da_nil) (Nat.le_refl _)))) (dw_or1 (dt_cmp (op_dNe (hu66 hr)) (de_callG G_law_text hr rfl (da_cons (de_var (i := 7)) da_nil) (Nat.le_refl _)) (de_var (i := 5)))))) (dss_one (ds_ret de_bl)) dss_nil))))))))) (dss_cons (ds_set (i := 8) sc.nd rfl (by first | exact Or.inl rfl | exact Or.inr rfl) (de_callG G_law_odd hr rfl (da_cons (de_var (i := 2)) da_nil) (Nat.le_refl _))) (dss_one (ds_if (dt_w (dw_or (dt_cmp (op_dNe (hu66 hr)) (de_callG G_law_read hr rfl (da_cons (de_var (i := 8)) da_nil) (Nat.le_refl _)) (de_str (s := "refused"))) (dw_or1 (dt_cmp (op_dNe (hu66 hr)) (de_callG G_law_read hr rfl (da_cons (de_lst (da_cons (de_callG G_law_text hr rfl (da_cons (de_var (i := 4)) da_nil) (Nat.le_refl _)) da_nil)) da_nil) (Nat.le_refl _)) (de_str (s := "refused")))))) (dss_one (ds_ret de_bl)) dss_nil)))))) (dss_cons (ds_set (i := 9) sc.nd rfl (by first | exact Or.inl rfl | exact Or.inr rfl) (de_bm PySem.F.plainAttrs_str PySem.F.slot_str_split PySem.F.type_str_split mt_dSplit (de_str (s := "take a 01!take a 0!take a 4!take  a 1! take a 1!take a 1 !take a 1;")) (da_cons (de_str (s := "!")) da_nil))) (dss_cons (ds_set (i := 9) sc.nd rfl (by first | exact Or.inl rfl | exact Or.inr rfl) (de_opM (de_var (i := 9)) (de_bm PySem.F.plainAttrs_str PySem.F.slot_str_split PySem.F.type_str_split mt_dSplit (de_str (s := "take a 1;take b 1!until a end!until a nn!if a n ()!if a n (|)")) (da_cons (de_str (s := "!")) da_nil)))) (dss_cons (ds_set (i := 9) sc.nd rfl (by first | exact Or.inl rfl | exact Or.inr rfl) (de_opM (de_var (i := 9)) (de_bm PySem.F.plainAttrs_str PySem.F.slot_str_split PySem.F.type_str_split mt_dSplit (de_str (s := "while a (take a 1)!while a end!call!call()!call ()()!give a a!(take a 1)")) (da_cons (de_str (s := "!")) da_nil)))) (dss_cons (ds_set (i := 9) sc.nd rfl (by first | exact Or.inl rfl | exact Or.inr rfl) (de_opM (de_var (i := 9)) (de_bm PySem.F.plainAttrs_str PySem.F.slot_str_split PySem.F.type_str_split mt_dSplit (de_str (s := "call (take a 1!call (take a 1))!back c!while a n ( | )!take a")) (da_cons (de_str (s := "!")) da_nil)))) (dss_cons (ds_expr (de_bm PySem.F.plainAttrs_list PySem.F.slot_list_append PySem.F.type_list_append mt_dAppend (de_var (i := 9)) (da_cons (de_op op_dAdd (de_op op_dMul (de_str (s := "call (")) de_int) (de_op op_dMul (de_str (s := ")")) de_int)) da_nil))) (dss_cons (ds_if (dt_cmp (op_dNe (hu66 hr)) (de_lcB false (own := [("row", 13)]) rfl sc.nd (di_seq (de_var (i := 9))) (blkOk_by (N := n_law) (sc := defScope s_law) (by decide +kernel)) (fun _ _ _ _ _ => (dtg_name (i := 13) sc.nd rfl (by first | exact Or.inl rfl | exact Or.inr rfl))) (fun _ _ _ _ _ => (dts_one (dt_cmp (op_dNe (hu66 hr)) (de_callG G_law_read hr rfl (da_cons (de_op op_dAdd (de_str (s := "a one, b ahead\n")) (de_var (i := 13))) da_nil) (Nat.le_refl _)) (de_str (s := "refused"))))) (fun _ _ _ _ _ => (de_var (i := 13)))) (de_lst da_nil)) (dss_one (ds_ret de_bl)) dss_nil) (dss_cons (ds_set (i := 10) sc.nd rfl (by first | exact Or.inl rfl | exact Or.inr rfl) (de_bm PySem.F.plainAttrs_str PySem.F.slot_str_split PySem.F.type_str_split mt_dSplit (de_str (s := "!take a 1; take b 3!if a end ( | )!if a n (take a 1 | )!while b end ()")) (da_cons (de_str (s := "!")) da_nil))) (dss_cons (ds_set (i := 10) sc.nd rfl (by first | exact Or.inl rfl | exact Or.inr rfl) (de_op op_dAdd (de_var (i := 10)) (de_bm PySem.F.plainAttrs_str PySem.F.slot_str_split PySem.F.type_str_split mt_dSplit (de_str (s := "call ()!call (call (back a))")) (da_cons (de_str (s := "!")) da_nil)))) (dss_cons (ds_if (dt_cmp (op_dNe (hu66 hr)) (de_lcB false (own := [("row", 13)]) rfl sc.nd (di_seq (de_var (i := 10))) (blkOk_by (N := n_law) (sc := defScope s_law) (by decide +kernel)) (fun _ _ _ _ _ => (dtg_name (i := 13) sc.nd rfl (by first | exact Or.inl rfl | exact Or.inr rfl))) (fun _ _ _ _ _ => (dts_one (dt_cmp (op_dEq (hu66 hr)) (de_callG G_law_read hr rfl (da_cons (de_op op_dAdd (de_str (s := "a one, b ahead\n")) (de_var (i := 13))) da_nil) (Nat.le_refl _)) (de_str (s := "refused"))))) (fun _ _ _ _ _ => (de_var (i := 13)))) (de_lst da_nil)) (dss_one (ds_ret de_bl)) dss_nil) (dss_cons (ds_set (i := 11) sc.nd rfl (by first | exact Or.inl rfl | exact Or.inr rfl) (de_bm PySem.F.plainAttrs_str PySem.F.slot_str_split PySem.F.type_str_split mt_dSplit (de_str (s := "!a!a one b one!b one, a one!a one,b one!a two!a one, a one!a one, !A one")) (da_cons (de_str (s := "!")) da_nil))) (dss_consO (dso_set (i := 11) sc.nd rfl (by first | exact Or.inl rfl | exact Or.inr rfl) (deo_op2 op_dAdd (de_var (i := 11)) (deo_bm PySem.F.plainAttrs_str PySem.F.slot_str_split PySem.F.type_str_split mt_dSplit (deo_str (s := "a one#")) (da_cons (de_str (s := "!")) da_nil)))) (dsst_cons (dst_setLcB false (i := 11) (own := [("head", 12)]) rfl sc.nd rfl rfl (sw_true rfl rfl rfl (by decide +kernel)) (di_seq (de_var (i := 11))) (blkOk_by (N := n_law) (sc := defScope s_law) (by decide +kernel)) (fun _ _ _ _ _ => (dtg_name (i := 12) sc.nd rfl (by first | exact Or.inl rfl | exact Or.inr rfl))) (fun _ _ _ _ _ => dts_nil) (fun _ _ _ _ _ => (det_replC (y := "#") (z := "\n") (de_var (i := 12))))) (dsst_of (dss_one (ds_ret (de_cmp (op_dEq (hu66 hr)) (de_lcB false (own := [("head", 12)]) rfl sc.nd (di_seq (de_var (i := 11))) (blkOk_by (N := n_law) (sc := defScope s_law) (by decide +kernel)) (fun _ _ _ _ _ => (dtg_name (i := 12) sc.nd rfl (by first | exact Or.inl rfl | exact Or.inr rfl))) (fun _ _ _ _ _ => (dts_one (dt_cmp (op_dNe (hu66 hr)) (de_callG G_law_read hr rfl (da_cons (de_op op_dAdd (de_var (i := 12)) (de_str (s := "\nback a"))) da_nil) (Nat.le_refl _)) (de_str (s := "refused"))))) (fun _ _ _ _ _ => (de_var (i := 12)))) (de_lst da_nil))))))))))))))))))
theorem g_law {sp_law_deck sp_law_program sp_law_text sp_law_pick sp_law_spoilt sp_law_read sp_law_is_program sp_law_odd : SpD} {sp : SpD} (T : Txt K mg) (D : Dn K mg "law" s_law ["script"]) (G_law_deck : FnG P w K mg base k "_law_deck" ["cell", "turn"] sp_law_deck) (G_law_program : FnG P w K mg base k "_law_program" ["deck", "limit"] sp_law_program) (G_law_text : FnG P w K mg base k "_law_text" ["program"] sp_law_text) (G_law_pick : FnG P w K mg base k "_law_pick" ["deck", "limit"] sp_law_pick) (G_law_spoilt : FnG P w K mg base k "_law_spoilt" ["deck", "text"] sp_law_spoilt) (G_law_read : FnG P w K mg base k "_law_read" ["value"] sp_law_read) (G_law_is_program : FnG P w K mg base k "_law_is_program" ["value"] sp_law_is_program) (G_law_odd : FnG P w K mg base k "_law_odd" ["deck"] sp_law_odd) (len : ∀ ds M Q E, sp ds M Q E → ds.length = 1)
    (hq : ∀ ds M Φ Ψ, sp ds M Φ Ψ → t_law sp_law_deck sp_law_program sp_law_text sp_law_pick sp_law_spoilt sp_law_read sp_law_is_program sp_law_odd (endD M Φ) (startD n_law ds) M) : FnG P w K mg base (k + 1) "law" ["script"] sp :=
  D.fnG (t_law sp_law_deck sp_law_program sp_law_text sp_law_pick sp_law_spoilt sp_law_read sp_law_is_program sp_law_odd) sc_law len (fun J f cdv A outer s H E hr => d_law T G_law_deck G_law_program G_law_text G_law_pick G_law_spoilt G_law_read G_law_is_program G_law_odd J f cdv A outer s H E hr) hq
theorem o_law {sp_law_deck sp_law_program sp_law_text sp_law_pick sp_law_spoilt sp_law_read sp_law_is_program sp_law_odd : SpD} {f : Addr} {fd : FuncData} (T : Txt K mg) (F : FnP K "law" s_law f fd) (G_law_deck : FnG P w K mg base k "_law_deck" ["cell", "turn"] sp_law_deck) (G_law_program : FnG P w K mg base k "_law_program" ["deck", "limit"] sp_law_program) (G_law_text : FnG P w K mg base k "_law_text" ["program"] sp_law_text) (G_law_pick : FnG P w K mg base k "_law_pick" ["deck", "limit"] sp_law_pick) (G_law_spoilt : FnG P w K mg base k "_law_spoilt" ["deck", "text"] sp_law_spoilt) (G_law_read : FnG P w K mg base k "_law_read" ["value"] sp_law_read) (G_law_is_program : FnG P w K mg base k "_law_is_program" ["value"] sp_law_is_program) (G_law_odd : FnG P w K mg base k "_law_odd" ["deck"] sp_law_odd) (hq : ∀ ds M Φ Ψ, spLaw ds M Φ Ψ → t_law sp_law_deck sp_law_program sp_law_text sp_law_pick sp_law_spoilt sp_law_read sp_law_is_program sp_law_odd (endD M Φ) (startD n_law ds) M) : FnOk P w K mg base CX0 (k + 1) f fd ["script"] (lSp K mg spLaw) :=
  fnD (t_law sp_law_deck sp_law_program sp_law_text sp_law_pick sp_law_spoilt sp_law_read sp_law_is_program sp_law_odd) F.fun sc_law (fun ds M Q E ⟨ns, h, _⟩ => by rw [h]; rfl) (fun J cdv A outer s H E hr => d_law T G_law_deck G_law_program G_law_text G_law_pick G_law_spoilt G_law_read G_law_is_program G_law_odd J f cdv A outer s H E hr) hq
end
/-- the defs as they stand -/
structure En (K : PySem.W.Frag) (mg : Str → Option Value) : Prop where
  txt : Txt K mg
  e_is_whole : Dn K mg "is_whole" s_is_whole ["value", "low", "high"]
  e_is_label : Dn K mg "is_label" s_is_label ["value"]
  e_are_readers : Dn K mg "are_readers" s_are_readers ["value"]
  e_names_of : Dn K mg "names_of" s_names_of ["readers"]
  e_is_name : Dn K mg "is_name" s_is_name ["readers", "value"]
  e_is_mark : Dn K mg "is_mark" s_is_mark ["value"]
  e_inner : Dn K mg "inner" s_inner ["item"]
  e_is_simple : Dn K mg "is_simple" s_is_simple ["readers", "item"]
  e_is_look : Dn K mg "is_look" s_is_look ["readers", "item"]
  e_size_of_item : Dn K mg "size_of_item" s_size_of_item ["readers", "item", "deep"]
  e_size_of : Dn K mg "size_of" s_size_of ["readers", "body", "deep"]
  e_marks_in : Dn K mg "marks_in" s_marks_in ["body"]
  e_is_program : Dn K mg "is_program" s_is_program ["value"]
  e_item_text : Dn K mg "item_text" s_item_text ["item"]
  e_body_text : Dn K mg "body_text" s_body_text ["body"]
  e_text_of : Dn K mg "text_of" s_text_of ["program"]
  e_cut_up : Dn K mg "cut_up" s_cut_up ["text", "sign"]
  e_head_in : Dn K mg "head_in" s_head_in ["text"]
  e_item_in : Dn K mg "item_in" s_item_in ["text", "deep"]
  e_body_in : Dn K mg "body_in" s_body_in ["text", "deep"]
  e_read_program : Dn K mg "read_program" s_read_program ["text"]
  e_law_deck : Dn K mg "_law_deck" s_law_deck ["cell", "turn"]
  e_law_pick : Dn K mg "_law_pick" s_law_pick ["deck", "limit"]
  e_law_one : Dn K mg "_law_one" s_law_one ["deck", "items"]
  e_law_readers : Dn K mg "_law_readers" s_law_readers ["deck"]
  e_law_body : Dn K mg "_law_body" s_law_body ["deck", "readers", "deep", "left"]
  e_law_program : Dn K mg "_law_program" s_law_program ["deck", "limit"]
  e_law_inner : Dn K mg "_law_inner" s_law_inner ["item"]
  e_law_item_text : Dn K mg "_law_item_text" s_law_item_text ["item"]
  e_law_body_text : Dn K mg "_law_body_text" s_law_body_text ["body"]
  e_law_text : Dn K mg "_law_text" s_law_text ["program"]
  e_law_odd : Dn K mg "_law_odd" s_law_odd ["deck"]
  e_law_is_label : Dn K mg "_law_is_label" s_law_is_label ["value"]
  e_law_are_readers : Dn K mg "_law_are_readers" s_law_are_readers ["value"]
  e_law_is_mark : Dn K mg "_law_is_mark" s_law_is_mark ["value", "empty"]
  e_law_is_simple : Dn K mg "_law_is_simple" s_law_is_simple ["names", "step"]
  e_law_size : Dn K mg "_law_size" s_law_size ["names", "body", "deep", "marks"]
  e_law_is_program : Dn K mg "_law_is_program" s_law_is_program ["value"]
  e_law_read : Dn K mg "_law_read" s_law_read ["value"]
  e_law_spoilt : Dn K mg "_law_spoilt" s_law_spoilt ["deck", "text"]
  e_law : Dn K mg "law" s_law ["script"]
end K01

set_option Elab.async false
set_option linter.all false
set_option maxRecDepth 100000
set_option maxHeartbeats 1000000
namespace K01
open PySem L2 DL
/-! ### what the program's tests tell -/
def isLow (c : Nat) : Bool := inS [c] (q "abcdefghijklmnopqrstuvwxyz")
def labelS (s : List Nat) : Bool := decide (1 ≤ s.length) && decide (s.length ≤ 8) && s.all isLow
def labelD : D → Bool
  | .str s => labelS s
  | _ => false
def streamD : D → Bool
  | .str s => decide (s.length ≤ 200) && s.all isLow
  | _ => false
def wholeD (lo hi : Int) : D → Bool
  | .int i => decide (lo ≤ i) && decide (i ≤ hi)
  | _ => false
/-! ### promises -/
@[simp] def sp_is_whole : SpD := fun ds M Q _ => match ds with
  | [d, .int lo, .int hi] => stdB d = true ∧ Q (.bl (wholeD lo hi d)) M
  | _ => False
@[simp] def sp_is_label : SpD := fun ds M Q _ => ∃ d, ds = [d] ∧ stdB d = true ∧ Q (.bl (labelD d)) M
@[simp] def sp_is_stream : SpD := fun ds M Q _ => ∃ d, ds = [d] ∧ stdB d = true ∧ Q (.bl (streamD d)) M
theorem r_is_whole (ds : List D) (M : Mm) (Φ : QD) (Ψ : XD) (h : sp_is_whole ds M Φ Ψ) : t_is_whole (endD M Φ) (startD n_is_whole ds) M := by
  unfold sp_is_whole at h
  split at h
  case h_2 => exact h.elim
  rename_i d lo hi
  obtain ⟨hd, h⟩ := h
  cases d <;> simp [t_is_whole, stdB] at hd ⊢ <;> simp [wholeD, gc_self] at h ⊢
  any_goals exact h
  split
  · rename_i hh; simpa [hh] using h
  · rename_i hh; simpa [hh] using h
def lowD : D → Bool
  | .str c => inS c (q "abcdefghijklmnopqrstuvwxyz")
  | _ => false
theorem low_len {s : List Nat} {σ : Sg} {M : Mm} {i : Nat} {Φ : List D → Mm → Prop} (hi : i < σ.length) (hl : s.length ≤ sizeLine) (h : Φ (s.map fun c => .bl (isLow c)) M) :
    lcD (.one i) tdYes (tdOp dIn (tdVar i) (tdC (.str (q "abcdefghijklmnopqrstuvwxyz")))) Sta σ (s.map fun c => .str [c]) [] M Φ := by
  refine lcD_of (fun _ => true) (fun d => .bl (lowD d)) _ _ _ trivial (fun d hd => ?_) (by simpa using hl) ?_
  · obtain ⟨c, _, rfl⟩ := List.mem_map.mp hd
    refine ⟨_, rfl, fun K hK => hK, fun _ K hK => ?_⟩
    simp [hi, -Bool.exists_bool]
    exact hK
  · rw [List.filter_eq_self.mpr (fun _ _ => rfl), List.map_map]
    exact h
theorem r_is_label (ds : List D) (M : Mm) (Φ : QD) (Ψ : XD) (h : sp_is_label ds M Φ Ψ) : t_is_label (endD M Φ) (startD n_is_label ds) M := by
  obtain ⟨d, rfl, hd, h⟩ := h
  cases d <;> simp [t_is_label, stdB] at hd ⊢
  case str s =>
    replace h : Φ (.bl (labelS s)) M := h
    by_cases h1 : 1 ≤ s.length
    · by_cases h2 : s.length ≤ 8
      · rw [if_pos (by omega), if_pos (by omega)]
        intro p hp
        refine low_len (Nat.lt_succ_self 1) (by rw [sizeLine_eq]; omega) ?_
        refine ⟨_, blsD_map isLow s, ?_⟩
        rw [gc_me hp, gc_new hp, gc_self]
        simpa [labelS, h1, h2, List.all_map] using h
      · rw [if_pos (by omega), if_neg (by omega)]
        simpa [labelS, h1, h2] using h
    · rw [if_neg (by omega)]
      simpa [labelS, h1] using h
  all_goals simpa [labelD] using h
/-! ### readers -/
def readerB : D → Bool
  | .tup [n, .str m] => labelD n && (m == q "ahead" || m == q "one")
  | _ => false
def nameOf : D → List Nat
  | .tup (.str n :: _) => n
  | _ => []
def ascB (rs : List D) : Bool := (rs.zip (rs.drop 1)).all fun p => ltS (nameOf p.1) (nameOf p.2)
def readersL (rs : List D) : Bool := decide (1 ≤ rs.length) && decide (rs.length ≤ 4) && rs.all readerB && ascB rs
def readersD : D → Bool
  | .tup rs => readersL rs
  | _ => false
theorem readerB_inv {d : D} (h : readerB d = true) : ∃ n m, d = .tup [.str n, .str m] ∧ labelS n = true ∧ (m = q "ahead" ∨ m = q "one") := by
  unfold readerB at h
  split at h
  · rename_i n m
    rw [Bool.and_eq_true, Bool.or_eq_true, beq_iff_eq, beq_iff_eq] at h
    obtain ⟨h1, h2⟩ := h
    cases n with
    | str s => exact ⟨s, m, rfl, h1, h2⟩
    | _ => cases h1
  · cases h
def ltB : D → Bool
  | .tup [x, y] => ltS (nameOf x) (nameOf y)
  | _ => false
@[simp] def sp_are_readers : SpD := fun ds M Q _ => ∃ d, ds = [d] ∧ stdB d = true ∧ Q (.bl (readersD d)) M
theorem r_are_readers (ds : List D) (M : Mm) (Φ : QD) (Ψ : XD) (h : sp_are_readers ds M Φ Ψ) : t_are_readers sp_is_label (endD M Φ) (startD n_are_readers ds) M := by
  obtain ⟨d, rfl, hd, h⟩ := h
  cases d
  case tup rs =>
    replace h : Φ (.bl (readersL rs)) M := h
    have hd := std_tup.mp hd
    simp [t_are_readers, -Bool.exists_bool]
    by_cases h1 : 1 ≤ rs.length
    · by_cases h2 : rs.length ≤ 4
      · rw [if_pos (by omega), if_pos (by omega)]
        refine forD_inv (fun rest σ M' => M' = M ∧ (∃ x, σ = [some (.tup rs), x, none, none]) ∧ ∃ pre, rs = pre ++ rest ∧ ∀ d ∈ pre, readerB d = true) ?_ ?_ _ _ _ ⟨rfl, ⟨_, rfl⟩, [], rfl, fun _ h => by cases h⟩
        · rintro σ M' ⟨rfl, ⟨x, rfl⟩, pre, hp, hall⟩
          rw [List.append_nil] at hp
          subst hp
          refine ⟨trivial, ?_⟩
          simp [-Bool.exists_bool]
          intro p hp
          refine lcD_of (fun _ => true) (fun d => .bl (ltB d)) _ _ _ trivial (fun d hd => ?_) ?_ ?_
          · obtain ⟨⟨u, v⟩, huv, rfl⟩ := List.mem_map.mp hd
            obtain ⟨n1, m1, rfl, _⟩ := readerB_inv (hall u (List.of_mem_zip huv).1)
            obtain ⟨n2, m2, rfl, _⟩ := readerB_inv (hall v (List.mem_of_mem_tail (List.of_mem_zip huv).2))
            refine ⟨_, rfl, fun K hK => hK, fun _ K hK => ?_⟩
            simpa [ltB, nameOf] using hK
          · simp [zipD]
            rw [sizeLine_eq]; omega
          · rw [List.filter_eq_self.mpr (fun _ _ => rfl)]
            refine ⟨_, blsD_map ltB _, ?_⟩
            rw [gc_me hp, gc_new hp, gc_self]
            have e : (((zipD rs (rs.drop 1)).map ltB).all id) = readersL rs := by
              unfold readersL ascB zipD
              rw [decide_eq_true h1, decide_eq_true h2, List.all_eq_true.mpr hall, List.map_map, List.all_map]
              rfl
            rw [List.drop_one] at e
            rw [e]
            exact h
        · rintro d rest σ M' ⟨rfl, ⟨x, rfl⟩, pre, hp, hall⟩
          refine ⟨trivial, _, rfl, fun k hk => ?_⟩
          have bad : readerB d = false → Φ (.bl false) M' := fun hb => by
            have e : readersL rs = false := by
              unfold readersL
              rw [hp, List.all_append, List.all_cons, hb]
              simp
            rw [e] at h
            exact h
          have hdd := hd d (by rw [hp]; simp)
          cases d
          case tup l =>
            have hl := std_tup.mp hdd
            match l, hl with
            | [], hl => 
              simp [-Bool.exists_bool]
              exact bad rfl
            | [a], hl =>
              simp [-Bool.exists_bool]
              exact bad rfl
            | a :: b :: c :: l, hl =>
              simp [-Bool.exists_bool]
              rw [if_neg (by omega)]
              exact bad (by cases b <;> rfl)
            | [a, b], hl =>
              have ha := hl a (by simp)
              have hb := hl b (by simp)
              simp [-Bool.exists_bool, ha]
              cases b <;> simp [stdB, -Bool.exists_bool] at hb ⊢
              case str m =>
                have e : readerB (.tup [a, .str m]) = (labelD a && (m == q "ahead" || m == q "one")) := rfl
                by_cases h3 : labelD a = true
                · rw [if_pos h3]
                  by_cases h4 : m = q "ahead" ∨ m = q "one"
                  · rw [if_pos (h4.imp Eq.symm Eq.symm)]
                    refine hk _ _ ⟨rfl, ⟨_, rfl⟩, pre ++ [.tup [a, .str m]], by rw [hp]; simp, fun d hd => ?_⟩
                    rcases List.mem_append.mp hd with z | z
                    · exact hall d z
                    · rw [List.mem_singleton.mp z, e, h3]
                      simpa using h4
                  · rw [if_neg fun z => h4 (z.imp Eq.symm Eq.symm)]
                    exact bad (by rw [e, h3]; simpa using h4)
                · rw [if_neg h3]
                  exact bad (by rw [e, Bool.eq_false_iff.mpr h3, Bool.false_and])
              all_goals exact bad rfl
          all_goals simp [stdB] at hdd
          all_goals simp [-Bool.exists_bool]
          all_goals exact bad rfl
      · rw [if_pos (by omega), if_neg (by omega)]
        simpa [readersL, h1, h2] using h
    · rw [if_neg (by omega)]
      simpa [readersL, h1] using h
  all_goals simp [t_are_readers, stdB] at hd ⊢
  all_goals simpa [readersD] using h
/-! ### names -/
theorem readersD_inv {d : D} (h : readersD d = true) : ∃ rs, d = .tup rs ∧ 1 ≤ rs.length ∧ rs.length ≤ 4 ∧ (∀ r ∈ rs, readerB r = true) ∧ ascB rs = true := by
  cases d with
  | tup rs =>
    have h : readersL rs = true := h
    unfold readersL at h
    simp only [Bool.and_eq_true, decide_eq_true_iff, List.all_eq_true] at h
    exact ⟨rs, rfl, h.1.1.1, h.1.1.2, h.1.2, h.2⟩
  | _ => cases h
/-- the names of readers -/
def namesD : D → List (List Nat)
  | .tup rs => rs.map nameOf
  | _ => []
@[simp] def sp_names_of : SpD := fun ds M Q _ => ∃ d, ds = [d] ∧ readersD d = true ∧ Q (.lst ((namesD d).map .str)) M
def nameB (ns : List (List Nat)) : D → Bool
  | .str z => decide (z ∈ ns)
  | _ => false
@[simp] def sp_is_name : SpD := fun ds M Q _ => match ds with
  | [d, x] => readersD d = true ∧ stdB x = true ∧ Q (.bl (nameB (namesD d) x)) M
  | _ => False
def markD : D → Bool
  | .str z => labelS z && decide (z.length = 1)
  | _ => false
@[simp] def sp_is_mark : SpD := fun ds M Q _ => ∃ d, ds = [d] ∧ stdB d = true ∧ Q (.bl (markD d)) M
theorem r_names_of (ds : List D) (M : Mm) (Φ : QD) (Ψ : XD) (h : sp_names_of ds M Φ Ψ) : t_names_of (endD M Φ) (startD n_names_of ds) M := by
  obtain ⟨d, rfl, hd, h⟩ := h
  obtain ⟨rs, rfl, h1, h2, hr, ha⟩ := readersD_inv hd
  simp [t_names_of, -Bool.exists_bool]
  intro p hp
  refine lcD_of (fun _ => true) (fun d => .str (nameOf d)) _ _ _ trivial (fun d hd => ?_) ?_ ?_
  · obtain ⟨n1, m1, rfl, _⟩ := readerB_inv (hr d hd)
    refine ⟨_, rfl, fun K hK => hK, fun _ K hK => ?_⟩
    simpa [nameOf] using hK
  · rw [sizeLine_eq, List.length_nil]; omega
  · rw [List.filter_eq_self.mpr (fun _ _ => rfl), gc_me hp, gc_new hp, gc_self]
    simpa [namesD, Function.comp_def] using h
theorem r_is_name (ds : List D) (M : Mm) (Φ : QD) (Ψ : XD) (h : sp_is_name ds M Φ Ψ) : t_is_name sp_names_of (endD M Φ) (startD n_is_name ds) M := by
  unfold sp_is_name at h
  split at h
  case h_2 => exact h.elim
  rename_i d x
  obtain ⟨hd, hx, h⟩ := h
  cases x <;> simp [t_is_name, stdB, -Bool.exists_bool, hd, inC_strs] at hx ⊢ <;> exact h
theorem r_is_mark (ds : List D) (M : Mm) (Φ : QD) (Ψ : XD) (h : sp_is_mark ds M Φ Ψ) : t_is_mark sp_is_label (endD M Φ) (startD n_is_mark ds) M := by
  obtain ⟨d, rfl, hd, h⟩ := h
  cases d
  case str z =>
    replace h : Φ (.bl (labelS z && decide (z.length = 1))) M := h
    simp [t_is_mark, stdB, labelD, -Bool.exists_bool]
    by_cases e : labelS z = true
    · rw [if_pos e]
      rw [e, Bool.true_and] at h
      have e2 : ((z.length : Int) == 1) = decide (z.length = 1) := by rw [Bool.eq_iff_iff]; simp; omega
      rw [e2]
      exact h
    · rw [if_neg e]
      rw [Bool.eq_false_iff.mpr e, Bool.false_and] at h
      exact h
  all_goals simp [t_is_mark, stdB, labelD, -Bool.exists_bool] at hd ⊢
  all_goals first | exact h | exact ⟨hd, h⟩
/-! ### the bodies in an item -/
def innerL : List D → List D
  | .str w :: l => if w = q "if" ∨ w = q "while" then (D.str w :: l).drop 3 else if w = q "call" then l else []
  | _ => []
@[simp] def sp_inner : SpD := fun ds M Q _ => match ds with
  | [.tup (.str w :: l)] => Q (.tup (innerL (.str w :: l))) M
  | _ => False
theorem r_inner (ds : List D) (M : Mm) (Φ : QD) (Ψ : XD) (h : sp_inner ds M Φ Ψ) : t_inner (endD M Φ) (startD n_inner ds) M := by
  unfold sp_inner at h
  split at h
  case h_2 => exact h.elim
  rename_i w l
  simp [t_inner, -Bool.exists_bool]
  refine ⟨by decide, ?_⟩
  replace h : Φ (.tup (if w = q "if" ∨ w = q "while" then (D.str w :: l).drop 3 else if w = q "call" then l else [])) M := h
  by_cases h1 : w = q "if" ∨ w = q "while"
  · rw [if_pos (h1.imp Eq.symm Eq.symm)]
    rw [if_pos h1] at h
    exact h
  · rw [if_neg fun z => h1 (z.imp Eq.symm Eq.symm)]
    rw [if_neg h1] at h
    by_cases h2 : w = q "call"
    · rw [if_pos h2] at h ⊢
      exact h
    · rw [if_neg h2] at h ⊢
      exact h
/-! ### steps -/
def neD : D → D → Bool
  | .str a, .str b => a == b
  | _, _ => false
def simpleL (ns : List (List Nat)) : List D → Bool
  | [.str w, x] => nameB ns x && decide (w = q "back")
  | [.str w, x, y] => nameB ns x && (if w = q "back" then false else if w = q "take" then wholeD 1 3 y else if w = q "until" then markD y else if w = q "give" then nameB ns y && !neD x y else false)
  | _ => false
@[simp] def sp_is_simple : SpD := fun ds M Q _ => match ds with
  | [r, .tup (.str w :: l)] => readersD r = true ∧ (∀ d ∈ l, stdB d = true) ∧ Q (.bl (simpleL (namesD r) (.str w :: l))) M
  | _ => False
theorem nameB_inv {ns : List (List Nat)} {x : D} (h : nameB ns x = true) : ∃ z, x = .str z ∧ z ∈ ns := by
  cases x with
  | str z => exact ⟨z, rfl, of_decide_eq_true h⟩
  | _ => cases h
theorem q_ne {a b : String} (h : (q a == q b) = false := by decide) : ¬ q a = q b := fun e => by rw [e, beq_self_eq_true] at h; cases h
theorem r_is_simple (ds : List D) (M : Mm) (Φ : QD) (Ψ : XD) (h : sp_is_simple ds M Φ Ψ) : t_is_simple sp_is_name sp_is_whole sp_is_mark (endD M Φ) (startD n_is_simple ds) M := by
  unfold sp_is_simple at h
  split at h
  case h_2 => exact h.elim
  rename_i r w l
  obtain ⟨hr, hl, h⟩ := h
  match l, hl with
  | [], hl =>
    simp [t_is_simple, -Bool.exists_bool, hr]
    exact h
  | [x], hl =>
    have hx := hl x (by simp)
    replace h : Φ (.bl (nameB (namesD r) x && decide (w = q "back"))) M := h
    simp [t_is_simple, -Bool.exists_bool, hr, hx]
    by_cases h1 : nameB (namesD r) x = true
    · rw [if_pos h1]
      rw [h1, Bool.true_and] at h
      by_cases h2 : w = q "back"
      · rw [if_pos h2]
        rw [decide_eq_true h2] at h
        exact h
      · rw [if_neg h2]
        rw [decide_eq_false h2] at h
        exact h
    · rw [if_neg h1]
      rw [Bool.eq_false_iff.mpr h1, Bool.false_and] at h
      exact h
  | [x, y], hl =>
    have hx := hl x (by simp)
    have hy := hl y (by simp)
    replace h : Φ (.bl (nameB (namesD r) x && (if w = q "back" then false else if w = q "take" then wholeD 1 3 y else if w = q "until" then markD y else if w = q "give" then nameB (namesD r) y && !neD x y else false))) M := h
    simp [t_is_simple, -Bool.exists_bool, hr, hx, hy]
    by_cases h1 : nameB (namesD r) x = true
    · rw [if_pos h1]
      rw [h1, Bool.true_and] at h
      by_cases h2 : w = q "back"
      · rw [if_pos h2] at h ⊢
        exact h
      · rw [if_neg h2] at h ⊢
        by_cases h3 : w = q "take"
        · rw [if_pos h3] at h ⊢
          exact h
        · rw [if_neg h3] at h ⊢
          by_cases h4 : w = q "until"
          · rw [if_pos h4] at h ⊢
            exact h
          · rw [if_neg h4] at h ⊢
            by_cases h5 : w = q "give"
            · rw [if_pos h5] at h ⊢
              by_cases h6 : nameB (namesD r) y = true
              · rw [if_pos h6]
                rw [h6, Bool.true_and] at h
                obtain ⟨a, rfl, _⟩ := nameB_inv h1
                obtain ⟨b, rfl, _⟩ := nameB_inv h6
                exact ⟨a == b, by simp, h⟩
              · rw [if_neg h6]
                rw [Bool.eq_false_iff.mpr h6, Bool.false_and] at h
                exact h
            · rw [if_neg h5] at h ⊢
              exact h
    · rw [if_neg h1]
      rw [Bool.eq_false_iff.mpr h1, Bool.false_and] at h
      exact h
  | x :: y :: z :: l, hl =>
    have hx := hl x (by simp)
    replace h : Φ (.bl false) M := h
    simp [t_is_simple, -Bool.exists_bool, hr, hx]
    rw [if_neg (by omega)]
    by_cases h1 : nameB (namesD r) x = true
    · rw [if_pos h1]
      by_cases h2 : w = q "back"
      · rw [if_pos h2]
        have e : ((l.length : Int) + 1 + 1 + 1 + 1 == 2) = false := by simp; omega
        rw [e]
        exact h
      · rw [if_neg h2, if_neg (by omega)]
        exact h
    · rw [if_neg h1]
      exact h
/-- if and while without their bodies -/
def markE : D → Bool
  | .str z => decide (z = []) || markD (.str z)
  | _ => false
def lookL (ns : List (List Nat)) : List D → Bool
  | .str w :: x :: y :: l => decide (l.length + 3 = (if w = q "while" then 4 else 5)) && nameB ns x && markE y
  | _ => false
@[simp] def sp_is_look : SpD := fun ds M Q _ => match ds with
  | [r, .tup (.str w :: l)] => readersD r = true ∧ (∀ d ∈ l, stdB d = true) ∧ Q (.bl (lookL (namesD r) (.str w :: l))) M
  | _ => False
theorem r_is_look (ds : List D) (M : Mm) (Φ : QD) (Ψ : XD) (h : sp_is_look ds M Φ Ψ) : t_is_look sp_is_name sp_is_mark (endD M Φ) (startD n_is_look ds) M := by
  unfold sp_is_look at h
  split at h
  case h_2 => exact h.elim
  rename_i r w l
  obtain ⟨hr, hl, h⟩ := h
  have e0 : ∀ n : Nat, ((5 : Int) - (if (w == q "while") = true then 1 else 0) = (n : Int)) ↔ n = (if w = q "while" then 4 else 5) := fun n => by
    by_cases hw : w = q "while"
    · simp [hw]; omega
    · simp [hw]; omega
  match l, hl with
  | [], hl =>
    replace h : Φ (.bl false) M := h
    simp [t_is_look, -Bool.exists_bool, hr]
    rw [if_neg (by split <;> omega)]
    exact h
  | [x], hl =>
    have hx := hl x (by simp)
    replace h : Φ (.bl false) M := h
    simp [t_is_look, -Bool.exists_bool, hr, hx]
    rw [if_neg (by split <;> omega)]
    exact h
  | x :: y :: l, hl =>
    have hx := hl x (by simp)
    have hy := hl y (by simp)
    replace h : Φ (.bl (decide (l.length + 3 = (if w = q "while" then 4 else 5)) && nameB (namesD r) x && markE y)) M := h
    simp [t_is_look, -Bool.exists_bool, hr, hx, hy]
    by_cases h1 : l.length + 3 = (if w = q "while" then 4 else 5)
    · rw [decide_eq_true h1, Bool.true_and] at h
      rw [if_pos (by split at h1 <;> rename_i hw <;> simp [hw] <;> omega)]
      by_cases h2 : nameB (namesD r) x = true
      · rw [if_pos h2]
        rw [h2, Bool.true_and] at h
        cases y
        case str z =>
          refine ⟨z == q "", by simp, ?_⟩
          replace h : Φ (.bl (decide (z = []) || markD (.str z))) M := h
          by_cases hz : z = []
          · subst hz
            exact h
          · rw [if_neg (by rw [beq_iff_eq]; exact hz)]
            rw [decide_eq_false hz, Bool.false_or] at h
            exact h
        all_goals simp [stdB] at hy
        all_goals exact ⟨false, by simp, h⟩
      · rw [if_neg h2]
        rw [Bool.eq_false_iff.mpr h2, Bool.false_and] at h
        exact h
    · rw [decide_eq_false h1] at h
      rw [if_neg (by split at h1 <;> rename_i hw <;> simp [hw] <;> omega)]
      exact h
/-! ### sizes -/
def sumO : List (Option Nat) → Option Nat
  | [] => some 0
  | none :: _ => none
  | some a :: l => (sumO l).map (a + ·)
theorem sumO_app {l m : List (Option Nat)} {a : Nat} (h : sumO l = some a) : sumO (l ++ m) = (sumO m).map (a + ·) := by
  induction l generalizing a with
  | nil =>
    cases h
    show sumO m = _
    cases sumO m with
    | none => rfl
    | some c => show some c = some (0 + c); rw [Nat.zero_add]
  | cons x l ih =>
    cases x with
    | none => cases h
    | some b =>
      unfold sumO at h
      cases e : sumO l with
      | none => rw [e] at h; cases h
      | some c =>
        rw [e] at h
        cases h
        show (sumO (l ++ m)).map (b + ·) = _
        rw [ih e, Option.map_map]
        congr 1
        funext n
        show b + (c + n) = b + c + n
        omega
theorem sumO_none {l m : List (Option Nat)} : sumO (l ++ none :: m) = none := by
  induction l with
  | nil => rfl
  | cons x l ih =>
    cases x with
    | none => rfl
    | some b => show (sumO (l ++ none :: m)).map (b + ·) = none; rw [ih]; rfl
def hasBody (w : List Nat) : Bool := w == q "if" || w == q "while" || w == q "call"
/-- the head of a step with bodies -/
def headL (ns : List (List Nat)) : List D → Bool
  | .str w :: l => if w = q "call" then decide (l.length = 1) else lookL ns (.str w :: l)
  | _ => false
def sizeI (ns : List (List Nat)) (sz : D → Option Nat) : D → Option Nat
  | .tup (.str w :: l) => if hasBody w = true then (if headL ns (.str w :: l) = true then (sumO ((innerL (.str w :: l)).map sz)).map (1 + ·) else none) else if simpleL ns (.str w :: l) = true then some 1 else none
  | _ => none
def sizeB (ns : List (List Nat)) : Nat → D → Option Nat
  | 0, _ => none
  | n + 1, .tup ds => sumO (ds.map (sizeI ns (sizeB ns n)))
  | _ + 1, _ => none
def optD : Option Nat → D
  | none => .non
  | some n => .int n
@[simp] def sp_size_of (n : Nat) : SpD := fun ds M Q _ => match ds with
  | [r, b, .int d] => readersD r = true ∧ stdB b = true ∧ d = 9 - (n : Int) ∧ Q (optD (sizeB (namesD r) n b)) M
  | _ => False
@[simp] def sp_size_of_item (n : Nat) : SpD := fun ds M Q _ => match ds with
  | [r, b, .int d] => readersD r = true ∧ stdB b = true ∧ d = 8 - (n : Int) ∧ Q (optD (sizeI (namesD r) (sizeB (namesD r) n) b)) M
  | _ => False
theorem r_size_of0 (ds : List D) (M : Mm) (Φ : QD) (Ψ : XD) (h : sp_size_of 0 ds M Φ Ψ) : t_size_of spNo (endD M Φ) (startD n_size_of ds) M := by
  unfold sp_size_of at h
  split at h
  case h_2 => exact h.elim
  rename_i r b d
  obtain ⟨hr, hb, rfl, h⟩ := h
  replace h : Φ .non M := h
  cases b <;> simp [t_size_of, stdB, -Bool.exists_bool] at hb ⊢ <;> exact h
theorem r_size_of (n : Nat) (ds : List D) (M : Mm) (Φ : QD) (Ψ : XD) (h : sp_size_of (n + 1) ds M Φ Ψ) : t_size_of (sp_size_of_item n) (endD M Φ) (startD n_size_of ds) M := by
  unfold sp_size_of at h
  split at h
  case h_2 => exact h.elim
  rename_i r b d
  obtain ⟨hr, hb, rfl, h⟩ := h
  have hd : ¬ ((8 : Int) < 9 - ((n + 1 : Nat) : Int)) := by omega
  cases b
  case tup items =>
    have hi := std_tup.mp hb
    replace h : Φ (optD (sumO (items.map (sizeI (namesD r) (sizeB (namesD r) n))))) M := h
    simp [t_size_of, -Bool.exists_bool]
    rw [if_neg (by omega)]
    refine forD_inv (fun rest σ M' => M' = M ∧ ∃ (acc : Nat) (x y : Option D), σ = [some r, some (.tup items), some (.int (9 - ((n : Int) + 1))), some (.int acc), x, y] ∧ ∃ pre, items = pre ++ rest ∧ sumO (pre.map (sizeI (namesD r) (sizeB (namesD r) n))) = some acc) ?_ ?_ _ _ _ ⟨rfl, 0, _, _, rfl, [], rfl, rfl⟩
    · rintro σ M' ⟨rfl, acc, x, y, rfl, pre, hp, hs⟩
      rw [List.append_nil] at hp
      subst hp
      rw [hs] at h
      exact ⟨trivial, by simpa [optD] using h⟩
    · rintro d rest σ M' ⟨rfl, acc, x, y, rfl, pre, hp, hs⟩
      refine ⟨trivial, _, rfl, fun k hk => ?_⟩
      have hd := hi d (by rw [hp]; simp)
      have e : sumO (items.map (sizeI (namesD r) (sizeB (namesD r) n))) = (sumO ((sizeI (namesD r) (sizeB (namesD r) n)) d :: rest.map (sizeI (namesD r) (sizeB (namesD r) n)))).map (acc + ·) := by
        rw [hp, List.map_append, List.map_cons, sumO_app hs]
      rw [e] at h
      simp [-Bool.exists_bool, hr, hd]
      refine ⟨by omega, ?_⟩
      cases hz : sizeI (namesD r) (sizeB (namesD r) n) d with
      | none =>
        rw [hz] at h
        simpa [optD, sumO] using h
      | some m =>
        simp [optD]
        refine hk _ _ ⟨rfl, acc + m, some d, some (.int m), by simp, pre ++ [d], by rw [hp]; simp, ?_⟩
        rw [List.map_append, sumO_app hs, List.map_cons, hz]
        rfl
  all_goals replace h : Φ .non M := h
  all_goals simp [t_size_of, stdB, -Bool.exists_bool] at hb ⊢
  all_goals exact h
theorem loop_item {n : Nat} {r it : D} {parts : List D} {M : Mm} {Φ : QD} {b c : Sg → Mm → Prop} (hr : readersD r = true) (hi : ∀ d ∈ parts, stdB d = true) (h : Φ (optD ((sumO (parts.map (sizeB (namesD r) n))).map (1 + ·))) M) :
    forD (.one 4) (tdSeq (tdSet 5 (tdCall (sp_size_of n) (tdCons (tdVar 0) (tdCons (tdVar 4) (tdCons (tdOp dAdd (tdVar 2) (tdC (.int 1))) tdNil))))) (tdSeq (tdIfS (tdTest (tdOp dIsN (tdVar 5) (tdC .non))) (tdRet (tdC .non)) tdNext) (tdSet 3 (tdOp dAdd (tdVar 3) (tdVar 5)))))
      Sta parts ⟨tdRet (tdVar 3) (endD M Φ), fun d M' => Φ d (gcR M M' d), b, c⟩ [some r, some it, some (.int (8 - (n : Int))), some (.int 1), none, none] M := by
  refine forD_inv (fun rest σ M' => M' = M ∧ ∃ (acc : Nat) (x y : Option D), σ = [some r, some it, some (.int (8 - (n : Int))), some (.int ((1 + acc : Nat) : Int)), x, y] ∧ ∃ pre, parts = pre ++ rest ∧ sumO (pre.map (sizeB (namesD r) n)) = some acc) ?_ ?_ _ _ _ ⟨rfl, 0, _, _, rfl, [], rfl, rfl⟩
  · rintro σ M' ⟨rfl, acc, x, y, rfl, pre, hp, hs⟩
    rw [List.append_nil] at hp
    subst hp
    rw [hs] at h
    exact ⟨trivial, by simpa [optD] using h⟩
  · rintro d rest σ M' ⟨rfl, acc, x, y, rfl, pre, hp, hs⟩
    refine ⟨trivial, _, rfl, fun k hk => ?_⟩
    have hd := hi d (by rw [hp]; simp)
    have e : sumO (parts.map (sizeB (namesD r) n)) = (sumO (sizeB (namesD r) n d :: rest.map (sizeB (namesD r) n))).map (acc + ·) := by
      rw [hp, List.map_append, List.map_cons, sumO_app hs]
    rw [e] at h
    simp [-Bool.exists_bool, hr, hd]
    refine ⟨by omega, ?_⟩
    cases hz : sizeB (namesD r) n d with
    | none =>
      rw [hz] at h
      simpa [optD, sumO] using h
    | some m =>
      simp [optD]
      refine hk _ _ ⟨rfl, acc + m, some d, some (.int m), by simp; omega, pre ++ [d], by rw [hp]; simp, ?_⟩
      rw [List.map_append, sumO_app hs, List.map_cons, hz]
      rfl
theorem innerL_mem {w : List Nat} {l : List D} {d : D} (h : d ∈ innerL (.str w :: l)) : d ∈ l := by
  have e : innerL (.str w :: l) = (if w = q "if" ∨ w = q "while" then (D.str w :: l).drop 3 else if w = q "call" then l else []) := rfl
  rw [e] at h
  split at h
  · exact List.mem_of_mem_drop (i := 2) (by simpa using h)
  · split at h
    · exact h
    · cases h
theorem r_size_of_item (n : Nat) (ds : List D) (M : Mm) (Φ : QD) (Ψ : XD) (h : sp_size_of_item n ds M Φ Ψ) : t_size_of_item sp_is_simple sp_is_look sp_inner (sp_size_of n) (endD M Φ) (startD n_size_of_item ds) M := by
  unfold sp_size_of_item at h
  split at h
  case h_2 => exact h.elim
  rename_i r b d
  obtain ⟨hr, hb, rfl, h⟩ := h
  cases b
  case tup items =>
    have hi := std_tup.mp hb
    cases items with
    | nil =>
      replace h : Φ .non M := h
      simpa [t_size_of_item, -Bool.exists_bool] using h
    | cons w l =>
      have hw := hi w List.mem_cons_self
      have hl : ∀ d ∈ l, stdB d = true := fun d hd => hi d (List.mem_cons_of_mem _ hd)
      cases w
      case str w =>
        replace h : Φ (optD (if hasBody w = true then (if headL (namesD r) (.str w :: l) = true then (sumO ((innerL (.str w :: l)).map (sizeB (namesD r) n))).map (1 + ·) else none) else if simpleL (namesD r) (.str w :: l) = true then some 1 else none)) M := h
        have hin : ∀ d ∈ innerL (.str w :: l), stdB d = true := fun d hd => hl d (innerL_mem hd)
        simp [t_size_of_item, -Bool.exists_bool, hr]
        refine ⟨by decide, ?_⟩
        have hw3 : (q "if" = w ∨ q "while" = w ∨ q "call" = w) ↔ hasBody w = true := by
          unfold hasBody
          rw [Bool.or_eq_true, Bool.or_eq_true, beq_iff_eq, beq_iff_eq, beq_iff_eq]
          constructor
          · rintro (z | z | z) <;> simp [z]
          · rintro ((z | z) | z) <;> simp [z]
        have hh : headL (namesD r) (.str w :: l) = (if w = q "call" then decide (l.length = 1) else lookL (namesD r) (.str w :: l)) := rfl
        by_cases h1 : hasBody w = true
        · rw [if_pos (hw3.mpr h1)]
          rw [if_pos h1, hh] at h
          by_cases h2 : w = q "call"
          · rw [if_pos h2]
            rw [if_pos h2] at h
            by_cases h3 : l.length = 1
            · rw [if_pos (by omega), if_pos h2]
              rw [if_pos (decide_eq_true h3)] at h
              exact loop_item hr hin h
            · rw [if_neg (by omega)]
              rw [if_neg (by rw [decide_eq_true_iff]; exact h3)] at h
              exact h
          · rw [if_neg h2, if_neg h2]
            rw [if_neg h2] at h
            refine ⟨hl, ?_⟩
            by_cases h3 : lookL (namesD r) (.str w :: l) = true
            · rw [if_pos h3] at h ⊢
              exact loop_item hr hin h
            · rw [if_neg h3] at h ⊢
              exact h
        · rw [if_neg fun z => h1 (hw3.mp z)]
          rw [if_neg h1] at h
          refine ⟨hl, ?_⟩
          by_cases h3 : simpleL (namesD r) (.str w :: l) = true
          · rw [if_pos h3] at h ⊢
            exact h
          · rw [if_neg h3] at h ⊢
            exact h
      all_goals replace h : Φ .non M := h
      all_goals simp [stdB] at hw
      all_goals simp [t_size_of_item, -Bool.exists_bool]
      all_goals exact h
  all_goals replace h : Φ .non M := h
  all_goals simp [t_size_of_item, stdB, -Bool.exists_bool] at hb ⊢
  all_goals exact h
end K01

set_option Elab.async false
set_option linter.all false
set_option maxRecDepth 100000
set_option maxHeartbeats 1000000
namespace K01
open PySem L2 DL
/-! ### what a valid item is -/
theorem sumO_inv {α : Type} {f : α → Option Nat} : ∀ {l : List α} {m : Nat}, sumO (l.map f) = some m → ∀ x ∈ l, ∃ a, f x = some a ∧ a ≤ m
  | [], _, _, x, hx => by cases hx
  | y :: l, m, h, x, hx => by
    rw [List.map_cons] at h
    cases e : f y with
    | none => rw [e] at h; cases h
    | some a =>
      rw [e] at h
      have h : (sumO (l.map f)).map (a + ·) = some m := h
      cases e2 : sumO (l.map f) with
      | none => rw [e2] at h; cases h
      | some c =>
        rw [e2] at h
        have h : some (a + c) = some m := h
        cases h
        rcases List.mem_cons.mp hx with z | z
        · subst z
          exact ⟨a, e, Nat.le_add_right ..⟩
        · obtain ⟨b, h1, h2⟩ := sumO_inv e2 x z
          exact ⟨b, h1, by omega⟩
theorem sumO_len {α β : Type} {f : α → Option Nat} {g : α → List β} : ∀ {l : List α} {m : Nat}, sumO (l.map f) = some m → (∀ x ∈ l, ∀ a, f x = some a → (g x).length ≤ a) → ((l.map g).flatten).length ≤ m
  | [], m, h, _ => by simp
  | y :: l, m, h, hg => by
    rw [List.map_cons] at h
    cases e : f y with
    | none => rw [e] at h; cases h
    | some a =>
      rw [e] at h
      have h : (sumO (l.map f)).map (a + ·) = some m := h
      cases e2 : sumO (l.map f) with
      | none => rw [e2] at h; cases h
      | some c =>
        rw [e2] at h
        have h : some (a + c) = some m := h
        cases h
        have h1 := hg y List.mem_cons_self a e
        have h2 := sumO_len e2 fun x hx => hg x (List.mem_cons_of_mem _ hx)
        rw [List.map_cons, List.flatten_cons, List.length_append]
        omega
theorem hasBody_iff {w : List Nat} : hasBody w = true ↔ w = q "if" ∨ w = q "while" ∨ w = q "call" := by
  unfold hasBody
  rw [Bool.or_eq_true, Bool.or_eq_true, beq_iff_eq, beq_iff_eq, beq_iff_eq, or_assoc]
theorem sizeI_inv {ns : List (List Nat)} {sz : D → Option Nat} {it : D} {m : Nat} (h : sizeI ns sz it = some m) : ∃ w l, it = .tup (.str w :: l) ∧
    ((hasBody w = true ∧ headL ns (.str w :: l) = true ∧ ∃ m', sumO ((innerL (.str w :: l)).map sz) = some m' ∧ m = 1 + m') ∨ (hasBody w = false ∧ simpleL ns (.str w :: l) = true ∧ m = 1)) := by
  unfold sizeI at h
  split at h
  · rename_i w l
    refine ⟨w, l, rfl, ?_⟩
    split at h
    · rename_i h1
      split at h
      · rename_i h2
        cases e : sumO ((innerL (.str w :: l)).map sz) with
        | none => rw [e] at h; cases h
        | some c => rw [e] at h; cases h; exact .inl ⟨h1, h2, c, rfl, rfl⟩
      · cases h
    · rename_i h1
      split at h
      · rename_i h2
        cases h
        exact .inr ⟨Bool.eq_false_iff.mpr h1, h2, rfl⟩
      · cases h
  · cases h
theorem markD_inv {d : D} (h : markD d = true) : ∃ z, d = .str z ∧ labelS z = true ∧ z.length = 1 := by
  cases d with
  | str z =>
    have h : (labelS z && decide (z.length = 1)) = true := h
    rw [Bool.and_eq_true, decide_eq_true_iff] at h
    exact ⟨z, rfl, h.1, h.2⟩
  | _ => cases h
theorem markE_inv {d : D} (h : markE d = true) : ∃ z, d = .str z ∧ (z = [] ∨ z.length = 1) := by
  cases d with
  | str z =>
    have h : (decide (z = []) || markD (.str z)) = true := h
    rw [Bool.or_eq_true, decide_eq_true_iff] at h
    rcases h with h | h
    · exact ⟨z, rfl, .inl h⟩
    · obtain ⟨z', e, _, h2⟩ := markD_inv h
      cases e
      exact ⟨z, rfl, .inr h2⟩
  | _ => cases h
theorem lookL_inv {ns : List (List Nat)} {w : List Nat} {l : List D} (h : lookL ns (.str w :: l) = true) : ∃ x z r, l = .str x :: .str z :: r ∧ x ∈ ns ∧ (z = [] ∨ z.length = 1) ∧ r.length + 3 = (if w = q "while" then 4 else 5) := by
  match l, h with
  | x :: y :: r, h =>
    have h : (decide (r.length + 3 = (if w = q "while" then 4 else 5)) && nameB ns x && markE y) = true := h
    rw [Bool.and_eq_true, Bool.and_eq_true, decide_eq_true_iff] at h
    obtain ⟨⟨h1, h2⟩, h3⟩ := h
    obtain ⟨a, rfl, ha⟩ := nameB_inv h2
    obtain ⟨z, rfl, hz⟩ := markE_inv h3
    exact ⟨a, z, r, rfl, ha, hz, h1⟩
/-! ### marks -/
def isMk (w : List Nat) : Bool := w == q "until" || w == q "if" || w == q "while"
/-- the mark of a step itself -/
def ownM : List D → List (List Nat)
  | .str w :: _ :: .str z :: _ => if isMk w = true ∧ z ≠ [] then [z] else []
  | _ => []
def marksI (mk : D → List (List Nat)) : D → List (List Nat)
  | .tup l => ownM l ++ ((innerL l).map mk).flatten
  | _ => []
def marksB : Nat → D → List (List Nat)
  | 0, _ => []
  | n + 1, .tup ds => (ds.map (marksI (marksB n))).flatten
  | _ + 1, _ => []
theorem ownM_le (l : List D) : (ownM l).length ≤ 1 := by
  unfold ownM
  split
  · split <;> simp
  · simp
theorem simple_inner {w : List Nat} {l : List D} (h : hasBody w = false) : innerL (.str w :: l) = [] := by
  have e : innerL (.str w :: l) = (if w = q "if" ∨ w = q "while" then (D.str w :: l).drop 3 else if w = q "call" then l else []) := rfl
  have h0 : ¬ hasBody w = true := by rw [h]; exact Bool.false_ne_true
  rw [hasBody_iff] at h0
  rw [e, if_neg fun z => h0 (z.elim .inl fun z => .inr (.inl z)), if_neg fun z => h0 (.inr (.inr z))]
theorem marksI_le {ns : List (List Nat)} {sz : D → Option Nat} {mk : D → List (List Nat)} (hm : ∀ d a, sz d = some a → (mk d).length ≤ a) {it : D} {m : Nat} (h : sizeI ns sz it = some m) : (marksI mk it).length ≤ m := by
  obtain ⟨w, l, rfl, h3⟩ := sizeI_inv h
  clear h
  have ho := ownM_le (.str w :: l)
  show (ownM (.str w :: l) ++ ((innerL (.str w :: l)).map mk).flatten).length ≤ m
  rw [List.length_append]
  rcases h3 with ⟨_, _, m', h1, rfl⟩ | ⟨h1, _, rfl⟩
  · have := sumO_len (g := mk) h1 fun x _ a e => hm x a e
    omega
  · rw [simple_inner h1]
    simpa using ho
theorem marks_le {ns : List (List Nat)} : ∀ (n : Nat) (b : D) (m : Nat), sizeB ns n b = some m → (marksB n b).length ≤ m
  | 0, b, m, h => by cases h
  | n + 1, b, m, h => by
    cases b with
    | tup ds =>
      have h : sumO (ds.map (sizeI ns (sizeB ns n))) = some m := h
      exact sumO_len h fun x _ a e => marksI_le (fun d a' e' => marks_le n d a' e') e
    | _ => cases h
/-- the same members, no more of them -/
def Mem (ts xs : List (List Nat)) : Prop := (∀ x, x ∈ ts ↔ x ∈ xs) ∧ ts.length ≤ xs.length
theorem Mem.app {ts xs us ys : List (List Nat)} (a : Mem ts xs) (b : Mem us ys) : Mem (ts ++ us) (xs ++ ys) :=
  ⟨fun x => by rw [List.mem_append, List.mem_append, a.1, b.1], by rw [List.length_append, List.length_append]; have := a.2; have := b.2; omega⟩
theorem Mem.rfl {ts : List (List Nat)} : Mem ts ts := ⟨fun _ => Iff.rfl, Nat.le_refl _⟩
theorem Once.mem {ts us : List (List Nat)} (h : Once ts us) : Mem us ts := ⟨h.2, h.le⟩
theorem Mem.once {ts xs us : List (List Nat)} (a : Mem ts xs) (h : Once ts us) : Once xs us := ⟨h.1, fun x => (h.2 x).trans (a.1 x)⟩
@[simp] def sp_marks_in (n : Nat) : SpD := fun ds M Q _ => match ds with
  | [b] => ∃ ns m, sizeB ns n b = some m ∧ m ≤ 40 ∧ ∀ us, Once (marksB n b) us → Asc us → Q (.lst (us.map .str)) M
  | _ => False
theorem marks_parts {n : Nat} {ns : List (List Nat)} {b x it : Option D} {parts : List D} {M : Mm} {nx b' c' : Sg → Mm → Prop} {rt : QD} {m : Nat} (hs : sumO (parts.map (sizeB ns n)) = some m) (hm : m ≤ 40) {ts xs : List (List Nat)} (ht : Mem ts xs) (hl : (xs ++ (parts.map (marksB n)).flatten).length ≤ 40)
    (k : ∀ ts' y, Mem ts' (xs ++ (parts.map (marksB n)).flatten) → nx [b, some (.lst (ts'.map .str)), it, y] M) :
    forD (.one 3) (tdSet 1 (tdOp dAdd (tdVar 1) (tdCall (sp_marks_in n) (tdCons (tdVar 3) tdNil)))) Sta parts ⟨nx, rt, b', c'⟩ [b, some (.lst (ts.map .str)), it, x] M := by
  refine forD_inv (fun rest σ M' => M' = M ∧ ∃ (ts' : List (List Nat)) (y : Option D) (pre : List D), σ = [b, some (.lst (ts'.map .str)), it, y] ∧ parts = pre ++ rest ∧ Mem ts' (xs ++ (pre.map (marksB n)).flatten)) ?_ ?_ _ _ _ ⟨rfl, ts, x, [], rfl, rfl, by simpa using ht⟩
  · rintro σ M' ⟨rfl, ts', y, pre, rfl, hp, hq⟩
    rw [List.append_nil] at hp
    subst hp
    exact ⟨trivial, k ts' y hq⟩
  · rintro d rest σ M' ⟨rfl, ts', y, pre, rfl, hp, hq⟩
    refine ⟨trivial, _, rfl, fun κ hk => ?_⟩
    obtain ⟨a, ha, hle⟩ := sumO_inv hs d (by rw [hp]; simp)
    have hlen : (xs ++ (pre.map (marksB n)).flatten).length + (marksB n d).length ≤ 40 := by
      have e : (parts.map (marksB n)).flatten = (pre.map (marksB n)).flatten ++ (marksB n d ++ (rest.map (marksB n)).flatten) := by rw [hp]; simp
      rw [e, List.length_append, List.length_append, List.length_append] at hl
      rw [List.length_append]
      omega
    simp [-Bool.exists_bool]
    refine ⟨ns, a, ha, by omega, fun us ho hasc => ?_⟩
    have h1 := hq.2
    have h2 := (Once.mem ho).2
    refine ⟨by rw [sizeLine_eq]; omega, ?_⟩
    refine hk _ _ ⟨rfl, ts' ++ us, some d, pre ++ [d], by simp, by rw [hp]; simp, ?_⟩
    have := hq.app (Once.mem ho)
    simpa using this
/-- a valid step by its mark -/
theorem own_cases {ns : List (List Nat)} {w : List Nat} {l : List D} (h : (hasBody w = true ∧ headL ns (.str w :: l) = true) ∨ (hasBody w = false ∧ simpleL ns (.str w :: l) = true)) :
    (isMk w = true ∧ ∃ x z r, l = x :: .str z :: r) ∨ (isMk w = false) := by
  cases e : isMk w with
  | false => exact .inr rfl
  | true =>
    refine .inl ⟨rfl, ?_⟩
    rcases h with ⟨h1, h2⟩ | ⟨h1, h2⟩
    · have h2 : (if w = q "call" then decide (l.length = 1) else lookL ns (.str w :: l)) = true := h2
      by_cases hc : w = q "call"
      · subst hc
        exact absurd e (by decide)
      · rw [if_neg hc] at h2
        obtain ⟨x, z, r, rfl, _⟩ := lookL_inv h2
        exact ⟨_, z, r, rfl⟩
    · have hu : w = q "until" := by
        unfold isMk at e
        rw [Bool.or_eq_true, Bool.or_eq_true, beq_iff_eq, beq_iff_eq, beq_iff_eq] at e
        rcases e with (z | z) | z
        · exact z
        · exact absurd (hasBody_iff.mpr (.inl z)) (by rw [h1]; exact Bool.false_ne_true)
        · exact absurd (hasBody_iff.mpr (.inr (.inl z))) (by rw [h1]; exact Bool.false_ne_true)
      match l, h2 with
      | [x], h2 =>
        have h2 : (nameB ns x && decide (w = q "back")) = true := h2
        rw [Bool.and_eq_true, decide_eq_true_iff] at h2
        rw [hu] at h2
        exact absurd h2.2 q_ne
      | [x, y], h2 =>
        have h2 : (nameB ns x && (if w = q "back" then false else if w = q "take" then wholeD 1 3 y else if w = q "until" then markD y else if w = q "give" then nameB ns y && !neD x y else false)) = true := h2
        rw [Bool.and_eq_true] at h2
        rw [if_neg (by rw [hu]; exact q_ne), if_neg (by rw [hu]; exact q_ne), if_pos hu] at h2
        obtain ⟨z, rfl, _⟩ := markD_inv h2.2
        exact ⟨x, z, [], rfl⟩
theorem r_marks_in (n : Nat) (ds : List D) (M : Mm) (Φ : QD) (Ψ : XD) (h : sp_marks_in (n + 1) ds M Φ Ψ) : t_marks_in sp_inner (sp_marks_in n) (endD M Φ) (startD n_marks_in ds) M := by
  unfold sp_marks_in at h
  split at h
  case h_2 => exact h.elim
  rename_i b
  obtain ⟨ns, m, hs, hm, h⟩ := h
  have hall := marks_le _ _ _ hs
  cases b
  case tup items =>
    replace hs : sumO (items.map (sizeI ns (sizeB ns n))) = some m := hs
    have e0 : marksB (n + 1) (.tup items) = (items.map (marksI (marksB n))).flatten := rfl
    rw [e0] at h hall
    simp [t_marks_in, -Bool.exists_bool]
    refine forD_inv (fun rest σ M' => M' = M ∧ ∃ (ts : List (List Nat)) (x y : Option D) (pre : List D), σ = [some (.tup items), some (.lst (ts.map .str)), x, y] ∧ items = pre ++ rest ∧ Mem ts ((pre.map (marksI (marksB n))).flatten)) ?_ ?_ _ _ _ ⟨rfl, [], none, none, [], rfl, rfl, Mem.rfl⟩
    · rintro σ M' ⟨rfl, ts, x, y, pre, rfl, hp, hq⟩
      rw [List.append_nil] at hp
      subst hp
      refine ⟨trivial, ?_⟩
      simp [-Bool.exists_bool, strsD_map]
      refine ⟨by have := hq.2; unfold scanBound; omega, fun us ho ha => h us (hq.once ho) ha⟩
    · rintro d rest σ M' ⟨rfl, ts, x, y, pre, rfl, hp, hq⟩
      refine ⟨trivial, _, rfl, fun κ hk => ?_⟩
      obtain ⟨a, ha, hle⟩ := sumO_inv hs d (by rw [hp]; simp)
      obtain ⟨w, l, rfl, hv⟩ := sizeI_inv ha
      have hparts : ∃ m', sumO ((innerL (.str w :: l)).map (sizeB ns n)) = some m' ∧ m' ≤ 40 := by
        rcases hv with ⟨_, _, m', h1, h2⟩ | ⟨h1, _⟩
        · exact ⟨m', h1, by omega⟩
        · rw [simple_inner h1]
          exact ⟨0, rfl, by omega⟩
      obtain ⟨m', hm1, hm2⟩ := hparts
      have e1 : (items.map (marksI (marksB n))).flatten = (pre.map (marksI (marksB n))).flatten ++ ((ownM (.str w :: l) ++ ((innerL (.str w :: l)).map (marksB n)).flatten) ++ (rest.map (marksI (marksB n))).flatten) := by rw [hp]; simp [marksI]
      rw [e1, List.length_append, List.length_append, List.length_append] at hall
      have fin : ∀ ts' (b2 c2 : Sg → Mm → Prop), Mem ts' ((pre.map (marksI (marksB n))).flatten ++ ownM (.str w :: l)) →
          forD (.one 3) (tdSet 1 (tdOp dAdd (tdVar 1) (tdCall (sp_marks_in n) (tdCons (tdVar 3) tdNil)))) Sta (innerL (.str w :: l)) ⟨κ, fun d M'' => Φ d (gcR M' M'' d), b2, c2⟩ [some (.tup items), some (.lst (ts'.map .str)), some (.tup (.str w :: l)), y] M' := by
        intro ts' b2 c2 ht'
        refine marks_parts hm1 hm2 ht' (by rw [List.length_append, List.length_append]; omega) fun ts2 y2 h2 => hk _ _ ⟨rfl, ts2, _, y2, pre ++ [.tup (.str w :: l)], rfl, by rw [hp]; simp, ?_⟩
        have e2 : ((pre ++ [D.tup (.str w :: l)]).map (marksI (marksB n))).flatten = (pre.map (marksI (marksB n))).flatten ++ ownM (.str w :: l) ++ ((innerL (.str w :: l)).map (marksB n)).flatten := by simp [marksI]
        rw [e2]
        exact h2
      have hmk : (q "until" = w ∨ q "if" = w ∨ q "while" = w) ↔ isMk w = true := by
        unfold isMk
        rw [Bool.or_eq_true, Bool.or_eq_true, beq_iff_eq, beq_iff_eq, beq_iff_eq, or_assoc]
        exact ⟨fun z => z.imp Eq.symm fun z => z.imp Eq.symm Eq.symm, fun z => z.imp Eq.symm fun z => z.imp Eq.symm Eq.symm⟩
      rcases own_cases (hv.imp (fun z => ⟨z.1, z.2.1⟩) fun z => ⟨z.1, z.2.1⟩) with ⟨hi, x', z, r, rfl⟩ | hi
      · have ho : ownM (.str w :: x' :: .str z :: r) = if isMk w = true ∧ z ≠ [] then [z] else [] := rfl
        simp [-Bool.exists_bool]
        refine ⟨by decide, ?_⟩
        rw [if_pos (hmk.mpr hi)]
        by_cases hz : z = q ""
        · rw [if_pos hz]
          refine fin ts _ _ ?_
          rw [ho, if_neg fun c => c.2 hz, List.append_nil]
          exact hq
        · rw [if_neg hz]
          have h2 := hq.2
          refine ⟨by decide, by rw [sizeLine_eq]; omega, ?_⟩
          have hM : Mem (ts ++ [z]) ((pre.map (marksI (marksB n))).flatten ++ ownM (.str w :: x' :: .str z :: r)) := by
            rw [ho, if_pos ⟨hi, hz⟩]
            exact hq.app Mem.rfl
          have := fin (ts ++ [z]) (tdRet (tdSortSet (tdVar 1)) (endD M' Φ)) κ hM
          rw [List.map_append] at this
          exact this
      · have ho : ownM (.str w :: l) = [] := by
          unfold ownM
          split
          · rename_i w' _ z _ e
            cases e
            rw [if_neg (by rw [hi]; exact fun c => Bool.false_ne_true c.1)]
          · rfl
        simp [-Bool.exists_bool]
        refine ⟨by decide, ?_⟩
        rw [if_neg fun c => Bool.false_ne_true (hi.symm.trans (hmk.mp c))]
        refine fin ts _ _ ?_
        rw [ho, List.append_nil]
        exact hq
  all_goals cases hs
/-! ### the program -/
def cntM (ts : List (List Nat)) : Nat := (DLSet.metS (ts.map mkS)).length
theorem cntM_of {ts us : List (List Nat)} (h : Once ts us) : us.length = cntM ts := by
  rw [h.len once_met, List.length_map]
  rfl
def progB (r b : D) : Bool := readersD r && (match sizeB (namesD r) 8 b with
  | some m => decide (m ≤ 40) && decide (cntM (marksB 8 b) ≤ 3)
  | none => false)
def progD : D → Bool
  | .tup [r, b] => progB r b
  | _ => false
@[simp] def sp_is_program : SpD := fun ds M Q _ => match ds with
  | [d] => stdB d = true ∧ Q (.bl (progD d)) M
  | _ => False
theorem r_is_program (ds : List D) (M : Mm) (Φ : QD) (Ψ : XD) (h : sp_is_program ds M Φ Ψ) : t_is_program sp_are_readers (sp_size_of 8) (sp_marks_in 8) (endD M Φ) (startD n_is_program ds) M := by
  unfold sp_is_program at h
  split at h
  case h_2 => exact h.elim
  rename_i d
  obtain ⟨hd, h⟩ := h
  cases d
  case tup l =>
    have hl := std_tup.mp hd
    match l, hl with
    | [], hl =>
      simp [t_is_program, -Bool.exists_bool]
      exact h
    | [a], hl =>
      simp [t_is_program, -Bool.exists_bool]
      exact h
    | a :: b :: c :: l, hl =>
      replace h : Φ (.bl false) M := h
      simp [t_is_program, -Bool.exists_bool]
      rw [if_neg (by omega)]
      exact h
    | [r, b], hl =>
      have hr := hl r (by simp)
      have hb := hl b (by simp)
      replace h : Φ (.bl (progB r b)) M := h
      unfold progB at h
      simp [t_is_program, -Bool.exists_bool, hr, hb]
      by_cases h1 : readersD r = true
      · rw [if_pos h1]
        rw [h1, Bool.true_and] at h
        refine ⟨h1, ?_⟩
        cases hs : sizeB (namesD r) 8 b with
        | none =>
          rw [hs] at h
          simpa [optD] using h
        | some m =>
          rw [hs] at h
          replace h : Φ (.bl (decide (m ≤ 40) && decide (cntM (marksB 8 b) ≤ 3))) M := h
          simp [optD]
          by_cases hm : m ≤ 40
          · rw [if_pos (by omega)]
            refine ⟨_, m, hs, hm, fun us ho _ => ?_⟩
            have e : decide ((us.length : Int) ≤ 3) = decide (cntM (marksB 8 b) ≤ 3) := by
              rw [cntM_of ho, decide_eq_decide]
              omega
            rw [e]
            rw [decide_eq_true hm, Bool.true_and] at h
            exact h
          · rw [if_neg (by omega)]
            rw [decide_eq_false hm] at h
            exact h
      · rw [if_neg h1]
        rw [Bool.eq_false_iff.mpr h1, Bool.false_and] at h
        exact h
  all_goals simp [t_is_program, stdB, -Bool.exists_bool] at hd ⊢
  all_goals exact h
@[simp] def sp_need_program : SpD := fun ds M Q _ => match ds with
  | [d] => stdB d = true ∧ progD d = true ∧ Q .non M
  | _ => False
/-! ### the steps -/
def stepsI (st : D → List D) : D → List D
  | .tup l => .tup (l.take (l.length - (innerL l).length)) :: ((innerL l).map st).flatten
  | _ => []
def stepsB : Nat → D → List D
  | 0, _ => []
  | n + 1, .tup ds => (ds.map (stepsI (stepsB n))).flatten
  | _ + 1, _ => []
theorem stepsI_le {ns : List (List Nat)} {sz : D → Option Nat} {st : D → List D} (hm : ∀ d a, sz d = some a → (st d).length ≤ a) {it : D} {m : Nat} (h : sizeI ns sz it = some m) : (stepsI st it).length ≤ m := by
  obtain ⟨w, l, rfl, h3⟩ := sizeI_inv h
  clear h
  show (D.tup _ :: ((innerL (.str w :: l)).map st).flatten).length ≤ m
  rw [List.length_cons]
  rcases h3 with ⟨_, _, m', h1, rfl⟩ | ⟨h1, _, rfl⟩
  · have := sumO_len (g := st) h1 fun x _ a e => hm x a e
    omega
  · rw [simple_inner h1]
    simp
theorem steps_le {ns : List (List Nat)} : ∀ (n : Nat) (b : D) (m : Nat), sizeB ns n b = some m → (stepsB n b).length ≤ m
  | 0, b, m, h => by cases h
  | n + 1, b, m, h => by
    cases b with
    | tup ds =>
      have h : sumO (ds.map (sizeI ns (sizeB ns n))) = some m := h
      exact sumO_len h fun x _ a e => stepsI_le (fun d a' e' => steps_le n d a' e') e
    | _ => cases h
@[simp] def sp_steps_in (n : Nat) : SpD := fun ds M Q _ => match ds with
  | [b] => ∃ ns m, sizeB ns n b = some m ∧ m ≤ 1000 ∧ Q (.lst (stepsB n b)) M
  | _ => False
theorem innerL_len {w : List Nat} {l : List D} : (innerL (.str w :: l)).length ≤ l.length := by
  have e : innerL (.str w :: l) = (if w = q "if" ∨ w = q "while" then (D.str w :: l).drop 3 else if w = q "call" then l else []) := rfl
  rw [e]
  split
  · simp
  · split <;> simp
theorem steps_parts {n : Nat} {ns : List (List Nat)} {b x it : Option D} {parts : List D} {M : Mm} {nx b' c' : Sg → Mm → Prop} {rt : QD} {m : Nat} (hs : sumO (parts.map (sizeB ns n)) = some m) (hm : m ≤ 1000) {xs : List D} (hl : (xs ++ (parts.map (stepsB n)).flatten).length ≤ 1000)
    (k : ∀ y, nx [b, some (.lst (xs ++ (parts.map (stepsB n)).flatten)), it, y] M) :
    forD (.one 3) (tdSet 1 (tdOp dAdd (tdVar 1) (tdCall (sp_steps_in n) (tdCons (tdVar 3) tdNil)))) Sta parts ⟨nx, rt, b', c'⟩ [b, some (.lst xs), it, x] M := by
  refine forD_inv (fun rest σ M' => M' = M ∧ ∃ (y : Option D) (pre : List D), σ = [b, some (.lst (xs ++ (pre.map (stepsB n)).flatten)), it, y] ∧ parts = pre ++ rest) ?_ ?_ _ _ _ ⟨rfl, x, [], by simp, rfl⟩
  · rintro σ M' ⟨rfl, y, pre, rfl, hp⟩
    rw [List.append_nil] at hp
    subst hp
    exact ⟨trivial, k y⟩
  · rintro d rest σ M' ⟨rfl, y, pre, rfl, hp⟩
    refine ⟨trivial, _, rfl, fun κ hk => ?_⟩
    obtain ⟨a, ha, hle⟩ := sumO_inv hs d (by rw [hp]; simp)
    have e : (parts.map (stepsB n)).flatten = (pre.map (stepsB n)).flatten ++ (stepsB n d ++ (rest.map (stepsB n)).flatten) := by rw [hp]; simp
    rw [e, List.length_append, List.length_append, List.length_append] at hl
    simp [-Bool.exists_bool, -List.length_flatten]
    refine ⟨ns, a, ha, by omega, ?_, ?_⟩
    · rw [sizeLine_eq]
      omega
    · have := hk [b, some (.lst (xs ++ ((pre ++ [d]).map (stepsB n)).flatten)), it, some d] M' ⟨rfl, some d, pre ++ [d], rfl, by rw [hp]; simp⟩
      simpa using this
theorem progD_inv {d : D} (h : progD d = true) : ∃ r b m, d = .tup [r, b] ∧ readersD r = true ∧ sizeB (namesD r) 8 b = some m ∧ m ≤ 40 ∧ cntM (marksB 8 b) ≤ 3 := by
  unfold progD at h
  split at h
  · rename_i r b
    unfold progB at h
    rw [Bool.and_eq_true] at h
    obtain ⟨h1, h2⟩ := h
    split at h2
    · rename_i m e
      rw [Bool.and_eq_true, decide_eq_true_iff, decide_eq_true_iff] at h2
      exact ⟨r, b, m, rfl, h1, e, h2.1, h2.2⟩
    · cases h2
  · cases h
def bodyD : D → D
  | .tup [_, b] => b
  | _ => .non
@[simp] def sp_steps : SpD := fun ds M Q _ => match ds with
  | [d] => stdB d = true ∧ progD d = true ∧ Q (.lst (stepsB 8 (bodyD d))) M
  | _ => False
end K01

set_option Elab.async false
set_option linter.all false
set_option maxRecDepth 100000
set_option maxHeartbeats 1000000
/-! AST: programs as trees. -/
namespace K01
open PySem L2 DL
/-- a step -/
inductive It where
  | take (r : List Nat) (n : Nat)
  | untl (r m : List Nat)
  | back (r : List Nat)
  | give (r s : List Nat)
  | call (b : List It)
  | ifte (r m : List Nat) (b c : List It)
  | whil (r m : List Nat) (b : List It)
  deriving Inhabited
mutual
/-- a step as data -/
def itD : It → D
  | .take r n => .tup [.str (q "take"), .str r, .int n]
  | .untl r m => .tup [.str (q "until"), .str r, .str m]
  | .back r => .tup [.str (q "back"), .str r]
  | .give r s => .tup [.str (q "give"), .str r, .str s]
  | .call b => .tup [.str (q "call"), .tup (bD b)]
  | .ifte r m b c => .tup [.str (q "if"), .str r, .str m, .tup (bD b), .tup (bD c)]
  | .whil r m b => .tup [.str (q "while"), .str r, .str m, .tup (bD b)]
def bD : List It → List D
  | [] => []
  | i :: is => itD i :: bD is
end
theorem bD_map : ∀ b : List It, bD b = b.map itD
  | [] => rfl
  | i :: is => by rw [bD, bD_map is]; rfl
def MarkOk (m : List Nat) : Prop := labelS m = true ∧ m.length = 1
mutual
/-- a step that is one -/
def itOk (ns : List (List Nat)) : It → Prop
  | .take r n => r ∈ ns ∧ 1 ≤ n ∧ n ≤ 3
  | .untl r m => r ∈ ns ∧ MarkOk m
  | .back r => r ∈ ns
  | .give r s => r ∈ ns ∧ s ∈ ns ∧ r ≠ s
  | .call b => bOk ns b
  | .ifte r m b c => r ∈ ns ∧ (m = [] ∨ MarkOk m) ∧ bOk ns b ∧ bOk ns c
  | .whil r m b => r ∈ ns ∧ (m = [] ∨ MarkOk m) ∧ bOk ns b
def bOk (ns : List (List Nat)) : List It → Prop
  | [] => True
  | i :: is => itOk ns i ∧ bOk ns is
end
theorem bOk_mem {ns : List (List Nat)} : ∀ {b : List It}, bOk ns b ↔ ∀ i ∈ b, itOk ns i
  | [] => by simp [bOk]
  | i :: is => by rw [bOk, bOk_mem (b := is)]; simp
mutual
/-- how many steps -/
def itN : It → Nat
  | .call b => 1 + bN b
  | .ifte _ _ b c => 1 + (bN b + bN c)
  | .whil _ _ b => 1 + bN b
  | _ => 1
def bN : List It → Nat
  | [] => 0
  | i :: is => itN i + bN is
end
mutual
/-- how deep the bodies lie in a step, and a body -/
def itH : It → Nat
  | .call b => bH b
  | .ifte _ _ b c => max (bH b) (bH c)
  | .whil _ _ b => bH b
  | _ => 0
def bH : List It → Nat
  | [] => 1
  | i :: is => max (itH i + 1) (bH is)
end
theorem bH_pos : ∀ b : List It, 1 ≤ bH b
  | [] => by simp [bH]
  | i :: is => by rw [bH]; have := bH_pos is; omega
theorem bH_mem : ∀ {b : List It} {i : It}, i ∈ b → itH i + 1 ≤ bH b
  | [], _, h => by cases h
  | j :: is, i, h => by
    rw [bH]
    rcases List.mem_cons.mp h with rfl | h
    · omega
    · have := bH_mem h; omega
theorem bH_le {n : Nat} : ∀ {b : List It}, (∀ i ∈ b, itH i ≤ n) → bH b ≤ n + 1
  | [], _ => by simp [bH]
  | i :: is, h => by
    rw [bH]
    have h1 := h i List.mem_cons_self
    have h2 := bH_le (n := n) (b := is) fun j hj => h j (List.mem_cons_of_mem _ hj)
    omega
theorem bN_app : ∀ a b : List It, bN (a ++ b) = bN a + bN b
  | [], b => by simp [bN]
  | i :: is, b => by rw [List.cons_append, bN, bN, bN_app is b]; omega
/-! ### data that are programs -/
theorem sumO_bodies {ns : List (List Nat)} {sz : D → Option Nat} (h : ∀ d m, sz d = some m → ∃ i : It, d = itD i ∧ itOk ns i ∧ itH i ≤ k ∧ itN i = m) : ∀ {l : List D} {m : Nat}, sumO (l.map sz) = some m → ∃ b : List It, l = bD b ∧ bOk ns b ∧ (∀ i ∈ b, itH i ≤ k) ∧ bN b = m
  | [], m, e => ⟨[], rfl, trivial, fun _ h => (by cases h), by simp only [List.map_nil, sumO, Option.some.injEq] at e; simpa [bN] using e⟩
  | d :: l, m, e => by
    rw [List.map_cons] at e
    cases e1 : sz d with
    | none => rw [e1] at e; cases e
    | some a =>
      rw [e1] at e
      unfold sumO at e
      cases e2 : sumO (l.map sz) with
      | none => rw [e2] at e; cases e
      | some c =>
        rw [e2] at e
        cases e
        obtain ⟨i, rfl, h1, h2, h3⟩ := h d a e1
        obtain ⟨b, rfl, h4, h5, h6⟩ := sumO_bodies h e2
        exact ⟨i :: b, rfl, ⟨h1, h4⟩, fun j hj => (List.mem_cons.mp hj).elim (fun z => z ▸ h2) (h5 j), by rw [bN, h3, h6]⟩
theorem markD_ok {d : D} (h : markD d = true) : ∃ m, d = .str m ∧ MarkOk m := by
  obtain ⟨z, rfl, h1, h2⟩ := markD_inv h
  exact ⟨z, rfl, h1, h2⟩
theorem markE_ok2 {d : D} (h : markE d = true) : ∃ m, d = .str m ∧ (m = [] ∨ MarkOk m) := by
  cases d with
  | str z =>
    refine ⟨z, rfl, ?_⟩
    have h : (decide (z = []) || markD (.str z)) = true := h
    rw [Bool.or_eq_true, decide_eq_true_iff] at h
    rcases h with h | h
    · exact .inl h
    · obtain ⟨m, e, hm⟩ := markD_ok h
      cases e
      exact .inr hm
  | _ => cases h
theorem simple_it {ns : List (List Nat)} {w : List Nat} {l : List D} (h : simpleL ns (.str w :: l) = true) : ∃ i : It, .tup (.str w :: l) = itD i ∧ itOk ns i ∧ itH i = 0 ∧ itN i = 1 := by
  match l, h with
  | [x], h =>
    have g : (nameB ns x && decide (w = q "back")) = true := h
    clear h
    rw [Bool.and_eq_true, decide_eq_true_iff] at g
    obtain ⟨h1, rfl⟩ := g
    obtain ⟨z, rfl, hz⟩ := nameB_inv h1
    exact ⟨.back z, rfl, hz, rfl, rfl⟩
  | [x, y], h =>
    have g : (nameB ns x && (if w = q "back" then false else if w = q "take" then wholeD 1 3 y else if w = q "until" then markD y else if w = q "give" then nameB ns y && !neD x y else false)) = true := h
    clear h
    rw [Bool.and_eq_true] at g
    obtain ⟨h1, g⟩ := g
    obtain ⟨z, rfl, hz⟩ := nameB_inv h1
    clear h1
    by_cases e1 : w = q "back"
    · rw [if_pos e1] at g; cases g
    rw [if_neg e1] at g
    by_cases e2 : w = q "take"
    · rw [if_pos e2] at g
      subst e2
      cases y with
      | int i =>
        have g : (decide ((1 : Int) ≤ i) && decide (i ≤ 3)) = true := g
        rw [Bool.and_eq_true, decide_eq_true_iff, decide_eq_true_iff] at g
        refine ⟨.take z i.toNat, ?_, ⟨hz, by omega, by omega⟩, rfl, rfl⟩
        show _ = D.tup [.str (q "take"), .str z, .int (i.toNat : Int)]
        rw [Int.toNat_of_nonneg (by omega)]
      | _ => cases g
    rw [if_neg e2] at g
    by_cases e3 : w = q "until"
    · rw [if_pos e3] at g
      subst e3
      obtain ⟨m, rfl, hm⟩ := markD_ok g
      exact ⟨.untl z m, rfl, ⟨hz, hm⟩, rfl, rfl⟩
    rw [if_neg e3] at g
    by_cases e4 : w = q "give"
    · rw [if_pos e4, Bool.and_eq_true] at g
      subst e4
      obtain ⟨s, rfl, hs⟩ := nameB_inv g.1
      refine ⟨.give z s, rfl, ⟨hz, hs, ?_⟩, rfl, rfl⟩
      intro e
      subst e
      have := g.2
      simp [neD] at this
    · rw [if_neg e4] at g; cases g
  | [], h => cases h
  | x :: _ :: _ :: _, h => cases h
theorem sizeI_it {ns : List (List Nat)} {sz : D → Option Nat} {k : Nat} (hs : ∀ d m, sz d = some m → ∃ b : List It, d = .tup (bD b) ∧ bOk ns b ∧ bH b ≤ k ∧ bN b = m) {d : D} {m : Nat} (h : sizeI ns sz d = some m) :
    ∃ i : It, d = itD i ∧ itOk ns i ∧ itH i ≤ k ∧ itN i = m := by
  obtain ⟨w, l, e0, g⟩ := sizeI_inv h
  subst e0
  clear h
  rcases g with ⟨hb, hh, n, hn, rfl⟩ | ⟨hb, hsm, rfl⟩
  · rw [hasBody_iff] at hb
    have one : ∀ {x : D}, sumO ([x].map sz) = some n → ∃ b : List It, x = .tup (bD b) ∧ bOk ns b ∧ bH b ≤ k ∧ bN b = n := fun {x} e => by
      simp only [List.map_cons, List.map_nil] at e
      cases e1 : sz x with
      | none => rw [e1] at e; cases e
      | some a =>
        rw [e1] at e
        have e : (some (a + 0) : Option Nat) = some n := e
        cases e
        exact hs x a e1
    have look : ∀ w : List Nat, lookL ns (.str w :: l) = true → ∃ x z r, l = .str x :: .str z :: r ∧ x ∈ ns ∧ (z = [] ∨ MarkOk z) ∧ r.length + 3 = (if w = q "while" then 4 else 5) := fun w h => by
      match l, h with
      | x :: y :: r, h =>
        have h : (decide (r.length + 3 = (if w = q "while" then 4 else 5)) && nameB ns x && markE y) = true := h
        rw [Bool.and_eq_true, Bool.and_eq_true, decide_eq_true_iff] at h
        obtain ⟨z, rfl, hz⟩ := nameB_inv h.1.2
        obtain ⟨y, rfl, hy⟩ := markE_ok2 h.2
        exact ⟨z, y, r, rfl, hz, hy, h.1.1⟩
      | [], h => cases h
      | [_], h => cases h
    by_cases hc : w = q "call"
    · subst hc
      have hh : (if (q "call") = q "call" then decide (l.length = 1) else lookL ns (.str (q "call") :: l)) = true := hh
      rw [if_pos rfl, decide_eq_true_iff] at hh
      match l, hh with
      | [x], _ =>
        obtain ⟨b, rfl, h1, h2, h3⟩ := one (x := x) hn
        exact ⟨.call b, rfl, h1, h2, by rw [itN, h3]⟩
    · have hh : (if w = q "call" then decide (l.length = 1) else lookL ns (.str w :: l)) = true := hh
      rw [if_neg hc] at hh
      obtain ⟨x, z, r, rfl, hx, hz, hl⟩ := look w hh
      by_cases hw : w = q "while"
      · subst hw
        rw [if_pos rfl] at hl
        match r, hl with
        | [y], _ =>
          obtain ⟨b, rfl, h1, h2, h3⟩ := one (x := y) hn
          exact ⟨.whil x z b, rfl, ⟨hx, hz, h1⟩, h2, by rw [itN, h3]⟩
      · have hi : w = q "if" := by
          rcases hb with h | h | h
          · exact h
          · exact absurd h hw
          · exact absurd h hc
        subst hi
        rw [if_neg hw] at hl
        match r, hl with
        | [y, y2], _ =>
          have hn : sumO ([y, y2].map sz) = some n := hn
          simp only [List.map_cons, List.map_nil] at hn
          cases e1 : sz y with
          | none => rw [e1] at hn; cases hn
          | some a =>
            cases e2 : sz y2 with
            | none => rw [e1, e2] at hn; cases hn
            | some c =>
              rw [e1, e2] at hn
              have hn : (some (a + (c + 0)) : Option Nat) = some n := hn
              cases hn
              obtain ⟨b, rfl, h1, h2, h3⟩ := hs y a e1
              obtain ⟨b2, rfl, h4, h5, h6⟩ := hs y2 c e2
              exact ⟨.ifte x z b b2, rfl, ⟨hx, hz, h1, h4⟩, by rw [itH]; omega, by rw [itN, h3, h6]; omega⟩
  · obtain ⟨i, e, h1, h2, h3⟩ := simple_it hsm
    exact ⟨i, e, h1, by omega, h3⟩
theorem sizeB_it {ns : List (List Nat)} : ∀ {n : Nat} {d : D} {m : Nat}, sizeB ns n d = some m → ∃ b : List It, d = .tup (bD b) ∧ bOk ns b ∧ bH b ≤ n ∧ bN b = m
  | 0, _, _, h => by cases h
  | n + 1, .tup ds, m, h => by
    obtain ⟨b, rfl, h1, h2, h3⟩ := sumO_bodies (k := n) (fun d m e => sizeI_it (fun d m e => sizeB_it e) e) (show sumO (ds.map (sizeI ns (sizeB ns n))) = some m from h)
    exact ⟨b, rfl, h1, bH_le h2, h3⟩
  | _ + 1, .non, _, h => by cases h
  | _ + 1, .bl _, _, h => by cases h
  | _ + 1, .int _, _, h => by cases h
  | _ + 1, .str _, _, h => by cases h
  | _ + 1, .lst _, _, h => by cases h
  | _ + 1, .ref _, _, h => by cases h
  | _ + 1, .ty _, _, h => by cases h
end K01

set_option Elab.async false
set_option linter.all false
set_option maxRecDepth 100000
set_option maxHeartbeats 1000000
/-! TX: programs as texts, and back: plain functions and their law. -/
namespace K01
open PySem L2 DL
open TL (joinL spl pre spl_part1 spl_last1 spl_join numL)
/-! ### programs as texts -/
def wd (m : List Nat) : List Nat := if m = [] then q "end" else m
mutual
/-- a step as text -/
def itT : It → List Nat
  | .take r n => joinL [32] [q "take", r, numL n]
  | .untl r m => joinL [32] [q "until", r, wd m]
  | .back r => joinL [32] [q "back", r]
  | .give r s => joinL [32] [q "give", r, s]
  | .call b => joinL [32] [q "call"] ++ (q " (" ++ (joinL (q " | ") [bT b] ++ q ")"))
  | .ifte r m b c => joinL [32] [q "if", r, wd m] ++ (q " (" ++ (joinL (q " | ") [bT b, bT c] ++ q ")"))
  | .whil r m b => joinL [32] [q "while", r, wd m] ++ (q " (" ++ (joinL (q " | ") [bT b] ++ q ")"))
/-- a body as text -/
def bT : List It → List Nat
  | [] => []
  | [i] => itT i
  | i :: j :: is => itT i ++ (q "; " ++ bT (j :: is))
end
theorem bT_join : ∀ b : List It, bT b = joinL (q "; ") (b.map itT)
  | [] => rfl
  | [i] => rfl
  | i :: j :: is => by
    rw [bT, bT_join (j :: is)]
    rfl
/-- readers as text -/
def rdT (rs : List (List Nat × List Nat)) : List Nat := joinL (q ", ") (rs.map fun p => joinL [32] [p.1, p.2])
def rdD (rs : List (List Nat × List Nat)) : D := .tup (rs.map fun p => .tup [.str p.1, .str p.2])
/-- a program as text -/
def prT (rs : List (List Nat × List Nat)) (b : List It) : List Nat := rdT rs ++ (q "\n" ++ bT b)
/-! ### texts as programs -/
def dp (d : Int) (c : Nat) : Int := d + ((if c = 40 then 1 else 0) - (if c = 41 then 1 else 0))
/-- a text cut at a sign outside of all parentheses -/
def cutL (sg : List Nat) : Nat → Int → List Nat → List Nat → List (List Nat)
  | _, _, acc, [] => [acc]
  | k + 1, d, acc, _ :: t => cutL sg k d acc t
  | 0, d, acc, c :: t => if dp d c = 0 ∧ pre sg (c :: t) = true then acc :: cutL sg (sg.length - 1) (dp d c) [] t else cutL sg 0 (dp d c) (acc ++ [c]) t
def numW (w : List Nat) : D := if w = q "1" then .int 1 else if w = q "2" then .int 2 else if w = q "3" then .int 3 else .str w
/-- the words ahead of the bodies -/
def headP (t : List Nat) : List D :=
  match spl [32] 0 [] t with
  | w :: ws => if w = q "take" then (w :: ws).map numW else if (w = q "if" ∨ w = q "while") ∧ ws.length = 2 ∧ ws.getD 1 [] = q "end" then [.str w, .str (ws.getD 0 []), .str []] else (w :: ws).map .str
  | [] => []
/-- a step -/
def itemP (pb : List Nat → D) (t : List Nat) : D :=
  if findL (q " (") 0 t < 0 ∨ t.getLast? ≠ some 41 then .tup (headP t)
  else .tup (headP (t.take (findL (q " (") 0 t).toNat) ++ (cutL (q " | ") 0 0 [] ((t.take (t.length - 1)).drop ((findL (q " (") 0 t).toNat + 2))).map pb)
/-- a body -/
def bodyP : Nat → List Nat → D
  | 0, _ => .non
  | n + 1, t => if t = [] then .tup [] else .tup ((cutL (q "; ") 0 0 [] t).map (itemP (bodyP n)))
/-- a program, as it is read -/
def progP (t : List Nat) : D :=
  .tup [.tup ((spl (q ", ") 0 [] ((spl [10] 0 [] t).headD [])).map fun p => .tup ((spl [32] 0 [] p).map .str)), bodyP 8 ((spl [10] 0 [] t).getLastD [])]
/-! ### the law: there and back -/
/-- the signs of words -/
def wc (c : Nat) : Bool := (97 ≤ c && c ≤ 122) || (48 ≤ c && c ≤ 57)
theorem low_wc {c : Nat} (h : isLow c = true) : wc c = true := by
  unfold isLow at h
  rw [inS_one, decide_eq_true_iff] at h
  have : ∀ c ∈ q "abcdefghijklmnopqrstuvwxyz", wc c = true := by decide
  exact this c h
theorem label_wc {s : List Nat} (h : labelS s = true) : s.all wc = true ∧ s ≠ [] := by
  unfold labelS at h
  simp only [Bool.and_eq_true, decide_eq_true_iff, List.all_eq_true] at h
  refine ⟨List.all_eq_true.mpr fun c hc => low_wc (h.2 c hc), ?_⟩
  rintro rfl
  have := h.1.1
  simp at this
theorem wc_not {s : Nat} {w : List Nat} (h : w.all wc = true) (hs : wc s = false) : s ∉ w := fun hm => by
  rw [List.all_eq_true.mp h s hm] at hs
  cases hs
theorem num_wc {n : Nat} : (numL n).all wc = true ∧ numL n ≠ [] := by
  refine ⟨List.all_eq_true.mpr fun c hc => ?_, TL.numL_ne n⟩
  have h : ¬ (c < 48 ∨ 57 < c) := fun z => TL.numL_free (n := n) z hc
  have : 48 ≤ c ∧ c ≤ 57 := by omega
  simp [wc, this.1, this.2]
theorem wd_wc {m : List Nat} (h : m = [] ∨ MarkOk m) : (wd m).all wc = true ∧ wd m ≠ [] := by
  unfold wd
  split
  · exact ⟨by decide, by decide⟩
  · rename_i hm
    rcases h with h | h
    · exact absurd h hm
    · exact label_wc h.1
/-- the depth behind a text, where no bad sign stands outside of parentheses -/
def lv (bad : Nat) : Nat → List Nat → Option Nat
  | d, [] => some d
  | d, c :: t => if c = 40 then lv bad (d + 1) t else if c = 41 then (match d with | 0 => none | d + 1 => lv bad d t) else if d = 0 ∧ c = bad then none else lv bad d t
theorem lv_cons {bad d c : Nat} {t : List Nat} : lv bad d (c :: t) = if c = 40 then lv bad (d + 1) t else if c = 41 then (match d with | 0 => none | d + 1 => lv bad d t) else if d = 0 ∧ c = bad then none else lv bad d t := by
  cases d <;> rfl
theorem lv_app {bad : Nat} : ∀ {t u : List Nat} {d e : Nat}, lv bad d t = some e → lv bad d (t ++ u) = lv bad e u
  | [], u, d, e, h => by cases h; rfl
  | c :: t, u, d, e, h => by
    rw [List.cons_append]
    rw [lv_cons] at h ⊢
    split at h
    · rename_i h1
      rw [if_pos h1]
      exact lv_app h
    · rename_i h1
      rw [if_neg h1]
      split at h
      · rename_i h2
        rw [if_pos h2]
        cases d with
        | zero => cases h
        | succ d => exact lv_app h
      · rename_i h2
        rw [if_neg h2]
        split at h
        · cases h
        · rename_i h3
          rw [if_neg h3]
          exact lv_app h
theorem lv_up {bad bad2 : Nat} : ∀ {t : List Nat} {d e : Nat}, lv bad d t = some e → lv bad2 (d + 1) t = some (e + 1)
  | [], d, e, h => by cases h; rfl
  | c :: t, d, e, h => by
    rw [lv_cons] at h ⊢
    split at h
    · rename_i h1
      rw [if_pos h1]
      exact lv_up h
    · rename_i h1
      rw [if_neg h1]
      split at h
      · rename_i h2
        rw [if_pos h2]
        cases d with
        | zero => cases h
        | succ d => exact lv_up h
      · rename_i h2
        rw [if_neg h2, if_neg (by omega)]
        split at h
        · cases h
        · exact lv_up h
theorem lv_plain {bad : Nat} : ∀ {t : List Nat} {d : Nat}, (∀ c ∈ t, c ≠ 40 ∧ c ≠ 41 ∧ c ≠ bad) → lv bad d t = some d
  | [], d, _ => rfl
  | c :: t, d, h => by
    obtain ⟨h1, h2, h3⟩ := h c List.mem_cons_self
    unfold lv
    rw [if_neg h1, if_neg h2, if_neg fun z => h3 z.2]
    exact lv_plain fun x hx => h x (List.mem_cons_of_mem _ hx)
theorem join_mem {S : List Nat} : ∀ {ps : List (List Nat)} {c : Nat}, c ∈ joinL S ps → c ∈ S ∨ ∃ p ∈ ps, c ∈ p
  | [], c, h => by cases h
  | [p], c, h => .inr ⟨p, List.mem_singleton.mpr rfl, h⟩
  | p :: p2 :: ps, c, h => by
    have h : c ∈ p ++ (S ++ joinL S (p2 :: ps)) := h
    rw [List.mem_append, List.mem_append] at h
    rcases h with h | h | h
    · exact .inr ⟨p, List.mem_cons_self, h⟩
    · exact .inl h
    · rcases join_mem h with h | ⟨x, hx, h⟩
      · exact .inl h
      · exact .inr ⟨x, List.mem_cons_of_mem _ hx, h⟩
/-- words with a space between -/
def wss (ws : List (List Nat)) : Prop := ∀ w ∈ ws, w.all wc = true ∧ w ≠ []
theorem words_sign {ws : List (List Nat)} (h : wss ws) {c : Nat} (hc : c ∈ joinL [32] ws) : c = 32 ∨ wc c = true := by
  rcases join_mem hc with h1 | ⟨w, hw, h1⟩
  · exact .inl (by simpa using h1)
  · exact .inr (List.all_eq_true.mp (h w hw).1 c h1)
theorem words_not {ws : List (List Nat)} (h : wss ws) {s : Nat} (hs : wc s = false) (h2 : s ≠ 32) : s ∉ joinL [32] ws := fun hm => by
  rcases words_sign h hm with e | e
  · exact h2 e
  · rw [e] at hs; cases hs
theorem lv_words {ws : List (List Nat)} (h : wss ws) {bad : Nat} (hb : wc bad = false) (h2 : bad ≠ 32) {d : Nat} : lv bad d (joinL [32] ws) = some d := lv_plain fun c hc => by
  rcases words_sign h hc with rfl | e
  · exact ⟨by decide, by decide, fun z => h2 z.symm⟩
  · refine ⟨?_, ?_, ?_⟩ <;> rintro rfl
    · exact absurd e (by decide)
    · exact absurd e (by decide)
    · rw [e] at hb; cases hb
/-- a bad sign that is none of words -/
def Bad (b : Nat) : Prop := b = 59 ∨ b = 124
theorem Bad.wc {b : Nat} (h : Bad b) : wc b = false ∧ b ≠ 32 ∧ b ≠ 40 ∧ b ≠ 41 := by rcases h with rfl | rfl <;> decide
theorem lv_bodies {bad : Nat} : ∀ {ps : List (List Nat)}, (∀ p ∈ ps, lv 124 0 p = some 0) → lv bad 1 (joinL (q " | ") ps) = some 1
  | [], _ => rfl
  | [p], h => lv_up (h p (List.mem_singleton.mpr rfl))
  | p :: p2 :: ps, h => by
    show lv bad 1 (p ++ (q " | " ++ joinL (q " | ") (p2 :: ps))) = some 1
    rw [lv_app (lv_up (h p List.mem_cons_self)), lv_app (u := joinL _ _) (e := 1) (show lv bad 1 (q " | ") = some 1 from rfl)]
    exact lv_bodies fun x hx => h x (List.mem_cons_of_mem _ hx)
theorem lv_item {bad : Nat} (hb : Bad bad) {ws ps : List (List Nat)} (h : wss ws) (hp : ∀ p ∈ ps, lv 124 0 p = some 0) : lv bad 0 (joinL [32] ws ++ (q " (" ++ (joinL (q " | ") ps ++ q ")"))) = some 0 := by
  obtain ⟨h1, h2, h3, h4⟩ := hb.wc
  rw [lv_app (lv_words h h1 h2), lv_app (u := joinL _ _ ++ _) (e := 1) (show lv bad 0 (q " (") = some 1 from ?_), lv_app (lv_bodies hp)]
  · rfl
  · show (if (32 : Nat) = 40 then _ else if (32 : Nat) = 41 then _ else if 0 = 0 ∧ 32 = bad then none else lv bad 0 [40]) = some 1
    rw [if_neg (by decide), if_neg (by decide), if_neg fun z => h2 z.2.symm]
    rfl
section
variable {ns : List (List Nat)}
def Lab (ns : List (List Nat)) : Prop := ∀ n ∈ ns, labelS n = true
theorem q_wss {s : String} (h : (q s).all wc = true ∧ q s ≠ [] := by decide) {l : List (List Nat)} (hl : wss l) : wss (q s :: l) := fun w hw => by
  rcases List.mem_cons.mp hw with rfl | hw
  · exact h
  · exact hl w hw
theorem wss_nil : wss [] := fun _ h => by cases h
theorem wss_cons {w : List Nat} {l : List (List Nat)} (h : w.all wc = true ∧ w ≠ []) (hl : wss l) : wss (w :: l) := fun x hx => by
  rcases List.mem_cons.mp hx with rfl | hx
  · exact h
  · exact hl x hx
mutual
theorem itT_lv (hn : Lab ns) {bad : Nat} (hb : Bad bad) : ∀ {i : It}, itOk ns i → lv bad 0 (itT i) = some 0
  | .take r n, h => by
    rw [itT]
    exact lv_words (q_wss (hl := wss_cons (label_wc (hn r h.1)) (wss_cons num_wc wss_nil))) hb.wc.1 hb.wc.2.1
  | .untl r m, h => by
    rw [itT]
    exact lv_words (q_wss (hl := wss_cons (label_wc (hn r h.1)) (wss_cons (wd_wc (.inr h.2)) wss_nil))) hb.wc.1 hb.wc.2.1
  | .back r, h => by
    rw [itT]
    exact lv_words (q_wss (hl := wss_cons (label_wc (hn r h)) wss_nil)) hb.wc.1 hb.wc.2.1
  | .give r s, h => by
    rw [itT]
    exact lv_words (q_wss (hl := wss_cons (label_wc (hn r h.1)) (wss_cons (label_wc (hn s h.2.1)) wss_nil))) hb.wc.1 hb.wc.2.1
  | .call b, h => by
    rw [itT]
    refine lv_item hb (q_wss (hl := wss_nil)) fun p hp => ?_
    obtain rfl := List.mem_singleton.mp hp
    exact bT_lv hn h
  | .ifte r m b c, h => by
    rw [itT]
    refine lv_item hb (q_wss (hl := wss_cons (label_wc (hn r h.1)) (wss_cons (wd_wc h.2.1) wss_nil))) fun p hp => ?_
    rcases List.mem_cons.mp hp with rfl | hp
    · exact bT_lv hn h.2.2.1
    · obtain rfl := List.mem_singleton.mp hp
      exact bT_lv hn h.2.2.2
  | .whil r m b, h => by
    rw [itT]
    refine lv_item hb (q_wss (hl := wss_cons (label_wc (hn r h.1)) (wss_cons (wd_wc h.2.1) wss_nil))) fun p hp => ?_
    obtain rfl := List.mem_singleton.mp hp
    exact bT_lv hn h.2.2
theorem bT_lv (hn : Lab ns) : ∀ {b : List It}, bOk ns b → lv 124 0 (bT b) = some 0
  | [], _ => rfl
  | [i], h => by
    rw [bT]
    exact itT_lv hn (.inr rfl) h.1
  | i :: j :: is, h => by
    rw [bT, lv_app (itT_lv hn (.inr rfl) h.1), lv_app (u := bT (j :: is)) (e := 0) (show lv 124 0 (q "; ") = some 0 from rfl)]
    exact bT_lv hn h.2
end
end
/-! ### cutting -/
theorem cutL_skip (sg : List Nat) : ∀ (k : Nat) (d : Int) (acc l : List Nat), cutL sg k d acc l = cutL sg 0 d acc (l.drop k)
  | 0, _, _, _ => by rw [List.drop_zero]
  | k + 1, d, acc, [] => by rw [List.drop_nil]; rfl
  | k + 1, d, acc, c :: r => by
    show cutL sg k d acc r = cutL sg 0 d acc (r.drop k)
    exact cutL_skip sg k d acc r
theorem dp_lv {bad d e c : Nat} {t : List Nat} (hb : bad ≠ 41) (h : lv bad d (c :: t) = some e) : ∃ d2 : Nat, dp (d : Int) c = (d2 : Int) ∧ lv bad d2 t = some e ∧ (d2 = 0 → c ≠ bad) := by
  unfold lv at h
  split at h
  · rename_i h1
    exact ⟨d + 1, by unfold dp; rw [if_pos h1, if_neg (by omega)]; omega, h, fun z => by omega⟩
  · rename_i h1
    split at h
    · rename_i h2
      cases d with
      | zero => cases h
      | succ d => exact ⟨d, by unfold dp; rw [if_neg h1, if_pos h2]; omega, h, fun _ => by rw [h2]; exact hb.symm⟩
    · rename_i h2
      split at h
      · cases h
      · rename_i h3
        exact ⟨d, by unfold dp; rw [if_neg h1, if_neg h2]; omega, h, fun z1 z2 => h3 ⟨z1, z2⟩⟩
theorem cutL_miss {sg : List Nat} {d : Int} {acc t : List Nat} {c : Nat} (h : dp d c = 0 → pre sg (c :: t) = false) : cutL sg 0 d acc (c :: t) = cutL sg 0 (dp d c) (acc ++ [c]) t := by
  show (if dp d c = 0 ∧ pre sg (c :: t) = true then _ else _) = _
  rw [if_neg]
  rintro ⟨h1, h2⟩
  rw [h h1] at h2
  cases h2
/-- a separator, and the sign that no part has outside of parentheses -/
def SepOk (sg : List Nat) (bad : Nat) : Prop := (sg = q "; " ∧ bad = 59) ∨ (sg = q " | " ∧ bad = 124)
theorem SepOk.bad {sg : List Nat} {bad : Nat} (h : SepOk sg bad) : bad ≠ 41 ∧ sg ≠ [] := by rcases h with ⟨rfl, rfl⟩ | ⟨rfl, rfl⟩ <;> decide
/-- what follows a part: nothing, or the separator -/
def Rst (sg R : List Nat) : Prop := R = [] ∨ ∃ R', R = sg ++ R'
theorem cut_part {sg : List Nat} {bad : Nat} (hs : SepOk sg bad) {R : List Nat} (hR : Rst sg R) : ∀ {p : List Nat} {d : Nat} {acc : List Nat}, lv bad d p = some 0 → cutL sg 0 d acc (p ++ R) = cutL sg 0 0 (acc ++ p) R
  | [], d, acc, h => by cases h; rw [List.append_nil]; rfl
  | c :: t, d, acc, h => by
    obtain ⟨d2, e1, h2, h3⟩ := dp_lv hs.bad.1 h
    rw [List.cons_append, cutL_miss, e1, cut_part hs hR h2, List.append_assoc]
    · rfl
    · intro h0
      rw [e1] at h0
      have h0 : d2 = 0 := by omega
      subst h0
      have hc := h3 rfl
      rcases hs with ⟨rfl, rfl⟩ | ⟨rfl, rfl⟩
      · exact TL.pre_of_head _ _ hc
      · by_cases c32 : c = 32
        · subst c32
          cases t with
          | nil =>
            rcases hR with rfl | ⟨R', rfl⟩
            · rfl
            · rfl
          | cons c2 t2 =>
            obtain ⟨d3, e3, _, h5⟩ := dp_lv (by decide) h2
            cases hp : pre (q " | ") (32 :: (c2 :: t2 ++ R)) with
            | false => rfl
            | true =>
              have e : (32 :: c2 :: (t2 ++ R)).take 3 = [32, 124, 32] := eq_of_beq hp
              rw [List.take_succ_cons, List.take_succ_cons] at e
              injection e with _ e
              injection e with e _
              subst e
              exact absurd rfl (h5 (by have : dp (0 : Int) 124 = 0 := by decide
                                       rw [show ((0 : Nat) : Int) = 0 from rfl, this] at e3
                                       omega))
        · exact TL.pre_of_head _ _ c32
theorem cut_join {sg : List Nat} {bad : Nat} (hs : SepOk sg bad) : ∀ {ps : List (List Nat)}, ps ≠ [] → (∀ p ∈ ps, lv bad 0 p = some 0) → cutL sg 0 0 [] (joinL sg ps) = ps
  | [], h, _ => absurd rfl h
  | [p], _, h => by
    have e := cut_part hs (R := []) (.inl rfl) (acc := []) (h p (List.mem_singleton.mpr rfl))
    rw [List.append_nil] at e
    show cutL sg 0 ((0 : Nat) : Int) [] p = [p]
    rw [e]
    rfl
  | p :: p2 :: ps, _, h => by
    show cutL sg 0 ((0 : Nat) : Int) [] (p ++ (sg ++ joinL sg (p2 :: ps))) = _
    rw [cut_part hs (.inr ⟨_, rfl⟩) (h p List.mem_cons_self), List.nil_append]
    have ih := cut_join hs (ps := p2 :: ps) (by simp) fun x hx => h x (List.mem_cons_of_mem _ hx)
    have hit : ∀ (c : Nat) (s : List Nat) (acc R : List Nat), dp 0 c = 0 → cutL (c :: s) 0 0 acc ((c :: s) ++ R) = acc :: cutL (c :: s) 0 0 [] R := fun c s acc R h0 => by
      show (if dp 0 c = 0 ∧ pre (c :: s) (c :: s ++ R) = true then acc :: cutL (c :: s) ((c :: s).length - 1) (dp 0 c) [] (s ++ R) else _) = _
      rw [if_pos ⟨h0, TL.pre_self _ _⟩, cutL_skip, h0]
      rw [show (c :: s).length - 1 = s.length from rfl, List.drop_left]
    rcases hs with ⟨rfl, rfl⟩ | ⟨rfl, rfl⟩
    · rw [show q "; " = 59 :: [32] from rfl, hit _ _ _ _ (by decide)]
      exact congrArg _ ih
    · rw [show q " | " = 32 :: [124, 32] from rfl, hit _ _ _ _ (by decide)]
      exact congrArg _ ih
/-! ### finding -/
theorem pre_par {c : Nat} {r : List Nat} (h : pre (q " (") (c :: r) = true) : c = 32 ∧ ∃ r', r = 40 :: r' := by
  have e : (c :: r).take 2 = [32, 40] := eq_of_beq h
  match r, e with
  | [], e => cases e
  | x :: r, e =>
    rw [List.take_succ_cons, List.take_succ_cons] at e
    injection e with e1 e
    injection e with e2 _
    exact ⟨e1, r, by rw [e2]⟩
theorem find_none : ∀ {l : List Nat} {i : Nat}, 40 ∉ l → findL (q " (") i l = -1
  | [], _, _ => rfl
  | c :: r, i, h => by
    show (if pre (q " (") (c :: r) = true then _ else _) = _
    rw [if_neg]
    · exact find_none fun z => h (List.mem_cons_of_mem _ z)
    · intro hp
      obtain ⟨_, r', rfl⟩ := pre_par hp
      exact h (by simp)
theorem find_at {R : List Nat} : ∀ {w : List Nat} {i : Nat}, 40 ∉ w → findL (q " (") i (w ++ (q " (" ++ R)) = ((i + w.length : Nat) : Int)
  | [], i, _ => by
    show (if pre (q " (") (q " (" ++ R) = true then _ else _) = _
    rw [if_pos (TL.pre_self _ _)]
    rfl
  | c :: w, i, h => by
    show (if pre (q " (") (c :: (w ++ (q " (" ++ R))) = true then _ else findL _ (i + 1) _) = _
    rw [if_neg]
    · show findL (q " (") (i + 1) (w ++ (q " (" ++ R)) = _
      rw [find_at fun z => h (List.mem_cons_of_mem _ z), List.length_cons]
      congr 1
      omega
    · intro hp
      obtain ⟨_, r', e⟩ := pre_par hp
      cases w with
      | nil => cases e
      | cons x w =>
        injection e with e _
        subst e
        exact h (by simp)
/-! ### a step, a body -/
theorem spl_words {ws : List (List Nat)} (h0 : ws ≠ []) (h : wss ws) : spl [32] 0 [] (joinL [32] ws) = ws := spl_join h0 fun w hw => wc_not (h w hw).1 (by decide)
theorem label_ne {r : List Nat} {s : String} (h : labelS r = true) (hs : labelS (q s) = false := by decide +kernel) : r ≠ q s := fun e => by rw [e, hs] at h; cases h
theorem numW_lab {r : List Nat} (h : labelS r = true) : numW r = .str r := by
  unfold numW
  rw [if_neg (label_ne h), if_neg (label_ne h), if_neg (label_ne h)]
theorem numW_num {n : Nat} (h1 : 1 ≤ n) (h3 : n ≤ 3) : numW (numL n) = .int n := by
  rw [TL.numL_lt (by omega)]
  have : n = 1 ∨ n = 2 ∨ n = 3 := by omega
  rcases this with rfl | rfl | rfl <;> rfl
theorem headP_take {ws : List (List Nat)} (h : wss ws) : headP (joinL [32] (q "take" :: ws)) = (q "take" :: ws).map numW := by
  unfold headP
  rw [spl_words (by simp) (q_wss (hl := h))]
  show (if q "take" = q "take" then _ else _) = _
  rw [if_pos rfl]
theorem headP_str {w : List Nat} {ws : List (List Nat)} (hw : w.all wc = true ∧ w ≠ []) (h : wss ws) (h1 : w ≠ q "take") (h2 : ¬ ((w = q "if" ∨ w = q "while") ∧ ws.length = 2 ∧ ws.getD 1 [] = q "end")) : headP (joinL [32] (w :: ws)) = (w :: ws).map .str := by
  unfold headP
  rw [spl_words (by simp) (wss_cons hw h)]
  show (if w = q "take" then _ else if _ then _ else _) = _
  rw [if_neg h1, if_neg h2]
theorem headP_look {w r m : List Nat} (hw : w = q "if" ∨ w = q "while") (hr : labelS r = true) (hm : m = [] ∨ MarkOk m) : headP (joinL [32] [w, r, wd m]) = [.str w, .str r, .str m] := by
  have hww : w.all wc = true ∧ w ≠ [] := by rcases hw with rfl | rfl <;> decide
  have ht : w ≠ q "take" := by rcases hw with rfl | rfl <;> decide
  have hl : wss [r, wd m] := wss_cons (label_wc hr) (wss_cons (wd_wc hm) wss_nil)
  by_cases h0 : m = []
  · subst h0
    unfold headP
    rw [spl_words (by simp) (wss_cons hww hl)]
    show (if w = q "take" then _ else if _ then _ else _) = _
    rw [if_neg ht, if_pos ⟨hw, rfl, rfl⟩]
    rfl
  · have hk : MarkOk m := hm.resolve_left h0
    have e : wd m = m := by unfold wd; rw [if_neg h0]
    rw [headP_str hww hl ht, e]
    · rfl
    · rintro ⟨_, _, h⟩
      have h : wd m = q "end" := h
      rw [e] at h
      have := hk.2
      rw [h] at this
      exact absurd this (by decide)
theorem item_simple {pb : List Nat → D} {ws : List (List Nat)} (h : wss ws) : itemP pb (joinL [32] ws) = .tup (headP (joinL [32] ws)) := by
  unfold itemP
  rw [if_pos (.inl (by rw [find_none (words_not h (by decide) (by decide))]; decide))]
theorem item_bodies {pb : List Nat → D} {ws ps : List (List Nat)} (h : wss ws) (h0 : ps ≠ []) (hp : ∀ p ∈ ps, lv 124 0 p = some 0) :
    itemP pb (joinL [32] ws ++ (q " (" ++ (joinL (q " | ") ps ++ q ")"))) = .tup (headP (joinL [32] ws) ++ ps.map pb) := by
  unfold itemP
  rw [find_at (words_not h (by decide) (by decide)), if_neg, Nat.zero_add]
  · rw [Int.toNat_natCast, List.take_left]
    have e : joinL [32] ws ++ (q " (" ++ (joinL (q " | ") ps ++ q ")")) = (joinL [32] ws ++ (q " (" ++ joinL (q " | ") ps)) ++ [41] := by
      rw [List.append_assoc, List.append_assoc]; rfl
    have e2 : (joinL [32] ws ++ (q " (" ++ (joinL (q " | ") ps ++ q ")"))).take ((joinL [32] ws ++ (q " (" ++ (joinL (q " | ") ps ++ q ")"))).length - 1) = joinL [32] ws ++ (q " (" ++ joinL (q " | ") ps) := by
      rw [e, List.length_append, List.length_singleton, Nat.add_sub_cancel, List.take_left]
    have e3 : (joinL [32] ws ++ (q " (" ++ joinL (q " | ") ps)).drop ((joinL [32] ws).length + 2) = joinL (q " | ") ps := by
      rw [← List.append_assoc, show (joinL [32] ws).length + 2 = (joinL [32] ws ++ q " (").length from by rw [List.length_append]; rfl, List.drop_left]
    rw [e2, e3, cut_join (.inr ⟨rfl, rfl⟩) h0 hp]
  · rintro (h | h)
    · omega
    · apply h
      rw [← List.append_assoc, ← List.append_assoc, List.getLast?_append]
      rfl
theorem itT_ne (i : It) : itT i ≠ [] := by
  cases i <;> rw [itT] <;> intro h <;> have := congrArg List.length h <;> simp [joinL, q] at this
section
variable {ns : List (List Nat)}
mutual
theorem item_back (hn : Lab ns) : ∀ {n : Nat} {i : It}, itOk ns i → itH i ≤ n → itemP (bodyP n) (itT i) = itD i
  | n, .take r k, h, _ => by
    rw [itT, item_simple (q_wss (hl := wss_cons (label_wc (hn r h.1)) (wss_cons num_wc wss_nil))), headP_take (wss_cons (label_wc (hn r h.1)) (wss_cons num_wc wss_nil))]
    show D.tup [numW (q "take"), numW r, numW (numL k)] = _
    rw [numW_lab (hn r h.1), numW_num h.2.1 h.2.2]
    rfl
  | n, .untl r m, h, _ => by
    have hl := wss_cons (label_wc (hn r h.1)) (wss_cons (wd_wc (.inr h.2)) wss_nil)
    rw [itT, item_simple (q_wss (hl := hl)), headP_str (by decide) hl (by decide) (fun z => absurd z.1 (by decide))]
    have e : wd m = m := by
      unfold wd
      rw [if_neg]
      rintro rfl
      exact absurd h.2.2 (by decide)
    rw [e]
    rfl
  | n, .back r, h, _ => by
    have hl := wss_cons (label_wc (hn r h)) wss_nil
    rw [itT, item_simple (q_wss (hl := hl)), headP_str (by decide) hl (by decide) (fun z => absurd z.1 (by decide))]
    rfl
  | n, .give r s, h, _ => by
    have hl := wss_cons (label_wc (hn r h.1)) (wss_cons (label_wc (hn s h.2.1)) wss_nil)
    rw [itT, item_simple (q_wss (hl := hl)), headP_str (by decide) hl (by decide) (fun z => absurd z.1 (by decide))]
    rfl
  | n, .call b, h, hd => by
    rw [itT, item_bodies (q_wss (hl := wss_nil)) (by simp) (fun p hp => by obtain rfl := List.mem_singleton.mp hp; exact bT_lv hn h), headP_str (by decide) wss_nil (by decide) (fun z => absurd z.1 (by decide))]
    show D.tup [.str (q "call"), bodyP n (bT b)] = _
    rw [body_back hn h hd]
    rfl
  | n, .ifte r m b c, h, hd => by
    have hl := wss_cons (label_wc (hn r h.1)) (wss_cons (wd_wc h.2.1) wss_nil)
    rw [itH] at hd
    rw [itT, item_bodies (q_wss (hl := hl)) (by simp) (fun p hp => by
      rcases List.mem_cons.mp hp with rfl | hp
      · exact bT_lv hn h.2.2.1
      · obtain rfl := List.mem_singleton.mp hp
        exact bT_lv hn h.2.2.2), headP_look (.inl rfl) (hn r h.1) h.2.1]
    show D.tup [.str (q "if"), .str r, .str m, bodyP n (bT b), bodyP n (bT c)] = _
    rw [body_back hn h.2.2.1 (by omega), body_back hn h.2.2.2 (by omega)]
    rfl
  | n, .whil r m b, h, hd => by
    have hl := wss_cons (label_wc (hn r h.1)) (wss_cons (wd_wc h.2.1) wss_nil)
    rw [itT, item_bodies (q_wss (hl := hl)) (by simp) (fun p hp => by obtain rfl := List.mem_singleton.mp hp; exact bT_lv hn h.2.2), headP_look (.inr rfl) (hn r h.1) h.2.1]
    show D.tup [.str (q "while"), .str r, .str m, bodyP n (bT b)] = _
    rw [body_back hn h.2.2 hd]
    rfl
theorem body_back (hn : Lab ns) : ∀ {n : Nat} {b : List It}, bOk ns b → bH b ≤ n → bodyP n (bT b) = .tup (bD b)
  | 0, b, _, hd => by have := bH_pos b; omega
  | n + 1, [], _, _ => rfl
  | n + 1, i :: is, h, hd => by
    have hne : bT (i :: is) ≠ [] := by
      cases is with
      | nil => rw [bT]; exact itT_ne i
      | cons j js => rw [bT]; exact fun z => itT_ne i (List.append_eq_nil_iff.mp z).1
    show (if bT (i :: is) = [] then _ else _) = _
    rw [if_neg hne, bT_join, cut_join (.inl ⟨rfl, rfl⟩) (by simp) (fun p hp => by
      obtain ⟨j, hj, rfl⟩ := List.mem_map.mp hp
      exact itT_lv hn (.inl rfl) (bOk_mem.mp h j hj)), List.map_map, items_back hn h (fun j hj => by have := bH_mem hj; omega)]
theorem items_back (hn : Lab ns) : ∀ {n : Nat} {b : List It}, bOk ns b → (∀ i ∈ b, itH i ≤ n) → b.map (itemP (bodyP n) ∘ itT) = bD b
  | n, [], _, _ => rfl
  | n, i :: is, h, hd => by
    rw [List.map_cons, items_back hn h.2 (fun j hj => hd j (List.mem_cons_of_mem _ hj)), bD]
    show itemP (bodyP n) (itT i) :: _ = _
    rw [item_back hn h.1 (hd i List.mem_cons_self)]
end
end
end K01

set_option Elab.async false
set_option linter.all false
set_option maxRecDepth 100000
set_option maxHeartbeats 1000000
/-! TX2: lengths of texts, readers, a whole program there and back. -/
namespace K01
open PySem L2 DL
open TL (joinL spl pre spl_part1 spl_last1 spl_join numL)
/-- typed comprehensions -/
theorem lcD_typed {α : Type} {g : Tgt} {te : TD} {σw : Sg} {M : Mm} (f : α → D) (e : α → D) : ∀ (l : List α) (acc : List D) {Φ : List D → Mm → Prop},
    (∀ a ∈ l, ∃ σ', setT g (f a) σw = some σ' ∧ ∀ K : D → Mm → Prop, K (e a) M → te σ' M K) → acc.length + l.length ≤ sizeLine → Φ (acc ++ l.map e) M → lcD g tdYes te Sta σw (l.map f) acc M Φ
  | [], acc, Φ, _, _, h => ⟨trivial, by simpa using h⟩
  | a :: l, acc, Φ, ha, hl, h => by
    rw [List.length_cons] at hl
    obtain ⟨σ', e1, h1⟩ := ha a List.mem_cons_self
    refine ⟨trivial, σ', e1, ?_⟩
    show te σ' M _
    refine h1 _ ⟨by omega, ?_⟩
    refine lcD_typed f e l _ (fun b hb => ha b (List.mem_cons_of_mem _ hb)) (by rw [List.length_append, List.length_singleton]; omega) ?_
    rw [List.append_assoc]
    exact h
/-! ### a step's head and bodies -/
def itHd : It → List D
  | .take r n => [.str (q "take"), .str r, .int n]
  | .untl r m => [.str (q "until"), .str r, .str m]
  | .back r => [.str (q "back"), .str r]
  | .give r s => [.str (q "give"), .str r, .str s]
  | .call _ => [.str (q "call")]
  | .ifte r m _ _ => [.str (q "if"), .str r, .str m]
  | .whil r m _ => [.str (q "while"), .str r, .str m]
def itPs : It → List (List It)
  | .call b => [b]
  | .ifte _ _ b c => [b, c]
  | .whil _ _ b => [b]
  | _ => []
def tb (b : List It) : D := .tup (bD b)
theorem itD_eq (i : It) : itD i = .tup (itHd i ++ (itPs i).map tb) := by cases i <;> rfl
theorem itHd_str (i : It) : ∃ w l, itHd i = .str w :: l := by cases i <;> exact ⟨_, _, rfl⟩
theorem inner_it (i : It) : innerL (itHd i ++ (itPs i).map tb) = (itPs i).map tb := by cases i <;> rfl
/-- a word of a head, as text -/
def wordS : D → List Nat
  | .str s => wd s
  | .int n => numL n.toNat
  | _ => []
/-- the parts of a text of a step -/
def bodT (bs : List (List It)) : List Nat := if bs = [] then [] else q " (" ++ (joinL (q " | ") (bs.map bT) ++ q ")")
theorem wd_q {m : List Nat} (h : m ≠ []) : wd m = m := by unfold wd; rw [if_neg h]
theorem lab_ne0 {r : List Nat} (h : labelS r = true) : r ≠ [] := (label_wc h).2
theorem itT_eq {ns : List (List Nat)} (hn : Lab ns) {i : It} (h : itOk ns i) : itT i = joinL [32] ((itHd i).map wordS) ++ bodT (itPs i) := by
  have w : ∀ r, r ∈ ns → wd r = r := fun r hr => wd_q (lab_ne0 (hn r hr))
  have c : ∀ s : String, q s ≠ [] → wd (q s) = q s := fun s hs => wd_q hs
  cases i with
  | take r n => simp [itT, itHd, itPs, bodT, wordS, w r h.1, c "take" (by decide)]
  | untl r m => simp [itT, itHd, itPs, bodT, wordS, w r h.1, c "until" (by decide)]
  | back r => simp [itT, itHd, itPs, bodT, wordS, w r h, c "back" (by decide)]
  | give r s => simp [itT, itHd, itPs, bodT, wordS, w r h.1, w s h.2.1, c "give" (by decide)]
  | call b => simp [itT, itHd, itPs, bodT, wordS, c "call" (by decide)]
  | ifte r m b d => simp [itT, itHd, itPs, bodT, wordS, w r h.1, c "if" (by decide)]
  | whil r m b => simp [itT, itHd, itPs, bodT, wordS, w r h.1, c "while" (by decide)]
theorem parts_ok {ns : List (List Nat)} {i : It} (h : itOk ns i) : ∀ b ∈ itPs i, bOk ns b := by
  cases i <;> simp [itPs, itOk] at h ⊢
  · exact h
  · exact ⟨h.2.2.1, h.2.2.2⟩
  · exact h.2.2
theorem parts_H {i : It} : ∀ b ∈ itPs i, bH b ≤ itH i := by
  cases i <;> simp [itPs, itH] <;> omega
theorem parts_N {i : It} : ∀ b ∈ itPs i, bN b + 1 ≤ itN i := by
  cases i <;> simp [itPs, itN] <;> omega
theorem items_N : ∀ {b : List It} {i : It}, i ∈ b → itN i ≤ bN b
  | [], _, h => by cases h
  | j :: is, i, h => by
    rw [bN]
    rcases List.mem_cons.mp h with rfl | h
    · omega
    · have := items_N h; omega
theorem itN_pos (i : It) : 1 ≤ itN i := by cases i <;> simp [itN] <;> omega
theorem len_N : ∀ b : List It, b.length ≤ bN b
  | [] => by simp [bN]
  | i :: is => by have := len_N is; have := itN_pos i; rw [bN, List.length_cons]; omega
/-! ### lengths -/
theorem lab_len {r : List Nat} (h : labelS r = true) : r.length ≤ 8 := by
  unfold labelS at h
  simp only [Bool.and_eq_true, decide_eq_true_iff] at h
  exact h.1.2
theorem wd_len {m : List Nat} (h : m = [] ∨ MarkOk m) : (wd m).length ≤ 3 := by
  unfold wd
  split
  · decide
  · rename_i h0
    rw [(h.resolve_left h0).2]
    decide
theorem num_len {n : Nat} (h : n ≤ 3) : (numL n).length = 1 := by rw [TL.numL_lt (by omega)]; rfl
section
variable {ns : List (List Nat)}
mutual
theorem itT_len (hn : Lab ns) : ∀ {i : It}, itOk ns i → (itT i).length + 2 ≤ 50 * itN i
  | .take r n, h => by
    have := lab_len (hn r h.1)
    have := num_len h.2.2
    simp [itT, itN, joinL, q] at *
    omega
  | .untl r m, h => by
    have := lab_len (hn r h.1)
    have := wd_len (.inr h.2)
    simp [itT, itN, joinL, q] at *
    omega
  | .back r, h => by
    have := lab_len (hn r h)
    simp [itT, itN, joinL, q] at *
    omega
  | .give r s, h => by
    have := lab_len (hn r h.1)
    have := lab_len (hn s h.2.1)
    simp [itT, itN, joinL, q] at *
    omega
  | .call b, h => by
    have := bT_len hn (b := b) h
    simp [itT, itN, joinL, q] at *
    omega
  | .ifte r m b c, h => by
    have := lab_len (hn r h.1)
    have := wd_len h.2.1
    have := bT_len hn (b := b) h.2.2.1
    have := bT_len hn (b := c) h.2.2.2
    simp [itT, itN, joinL, q] at *
    omega
  | .whil r m b, h => by
    have := lab_len (hn r h.1)
    have := wd_len h.2.1
    have := bT_len hn (b := b) h.2.2
    simp [itT, itN, joinL, q] at *
    omega
theorem bT_len (hn : Lab ns) : ∀ {b : List It}, bOk ns b → (bT b).length ≤ 50 * bN b
  | [], _ => by simp [bT]
  | [i], h => by
    have := itT_len hn (i := i) h.1
    rw [bT, bN]
    omega
  | i :: j :: is, h => by
    have := itT_len hn (i := i) h.1
    have := bT_len hn (b := j :: is) h.2
    rw [bT, bN]
    simp [q] at *
    omega
end
theorem num_no10 (n : Nat) : 10 ∉ numL n := wc_not num_wc.1 (by decide)
mutual
theorem itT_no (hn : Lab ns) : ∀ {i : It}, itOk ns i → 10 ∉ itT i
  | .take r n, h => by
    rw [itT]
    exact words_not (q_wss (hl := wss_cons (label_wc (hn r h.1)) (wss_cons num_wc wss_nil))) (by decide) (by decide)
  | .untl r m, h => by
    rw [itT]
    exact words_not (q_wss (hl := wss_cons (label_wc (hn r h.1)) (wss_cons (wd_wc (.inr h.2)) wss_nil))) (by decide) (by decide)
  | .back r, h => by
    rw [itT]
    exact words_not (q_wss (hl := wss_cons (label_wc (hn r h)) wss_nil)) (by decide) (by decide)
  | .give r s, h => by
    rw [itT]
    exact words_not (q_wss (hl := wss_cons (label_wc (hn r h.1)) (wss_cons (label_wc (hn s h.2.1)) wss_nil))) (by decide) (by decide)
  | .call b, h => by
    have h1 := bT_no hn (b := b) h
    have h2 := words_not (s := 10) (q_wss (s := "call") (hl := wss_nil)) (by decide) (by decide)
    rw [itT]
    simp [joinL, q] at h1 h2 ⊢
    exact h1
  | .ifte r m b c, h => by
    have h1 := bT_no hn (b := b) h.2.2.1
    have h3 := bT_no hn (b := c) h.2.2.2
    have h2 := words_not (s := 10) (q_wss (s := "if") (hl := wss_cons (label_wc (hn r h.1)) (wss_cons (wd_wc h.2.1) wss_nil))) (by decide) (by decide)
    rw [itT]
    simp only [List.mem_append, not_or]
    refine ⟨h2, by decide, ?_, by decide⟩
    simp only [joinL, List.mem_append, not_or]
    exact ⟨h1, by decide, h3⟩
  | .whil r m b, h => by
    have h1 := bT_no hn (b := b) h.2.2
    have h2 := words_not (s := 10) (q_wss (s := "while") (hl := wss_cons (label_wc (hn r h.1)) (wss_cons (wd_wc h.2.1) wss_nil))) (by decide) (by decide)
    rw [itT]
    simp only [List.mem_append, not_or]
    exact ⟨h2, by decide, h1, by decide⟩
theorem bT_no (hn : Lab ns) : ∀ {b : List It}, bOk ns b → 10 ∉ bT b
  | [], _ => by simp [bT]
  | [i], h => itT_no hn h.1
  | i :: j :: is, h => by
    have h1 := itT_no hn (i := i) h.1
    have h2 := bT_no hn (b := j :: is) h.2
    rw [bT]
    simp only [List.mem_append, not_or]
    exact ⟨h1, by decide, h2⟩
end
end
/-! ### readers -/
abbrev Rds := List (List Nat × List Nat)
def nms (rs : Rds) : List (List Nat) := rs.map (·.1)
def RdsOk (rs : Rds) : Prop := 1 ≤ rs.length ∧ rs.length ≤ 4 ∧ ∀ p ∈ rs, labelS p.1 = true ∧ (p.2 = q "ahead" ∨ p.2 = q "one")
theorem readers_rds {d : D} (h : readersD d = true) : ∃ rs, d = rdD rs ∧ RdsOk rs ∧ namesD d = nms rs := by
  obtain ⟨l, rfl, h1, h2, h3, _⟩ := readersD_inv h
  have : ∀ l : List D, (∀ r ∈ l, readerB r = true) → ∃ rs : Rds, l = rs.map (fun p => D.tup [.str p.1, .str p.2]) ∧ ∀ p ∈ rs, labelS p.1 = true ∧ (p.2 = q "ahead" ∨ p.2 = q "one") := by
    intro l
    induction l with
    | nil => exact fun _ => ⟨[], rfl, fun _ h => by cases h⟩
    | cons a l ih =>
      intro h
      obtain ⟨rs, rfl, hr⟩ := ih fun r hr => h r (List.mem_cons_of_mem _ hr)
      obtain ⟨n, m, rfl, e1, e2⟩ := readerB_inv (h a List.mem_cons_self)
      exact ⟨(n, m) :: rs, rfl, fun p hp => (List.mem_cons.mp hp).elim (fun z => z ▸ ⟨e1, e2⟩) (hr p)⟩
  obtain ⟨rs, rfl, hr⟩ := this l h3
  rw [List.length_map] at h1 h2
  refine ⟨rs, rfl, ⟨h1, h2, hr⟩, ?_⟩
  show (rs.map _).map nameOf = rs.map _
  rw [List.map_map]
  rfl
theorem RdsOk.lab {rs : Rds} (h : RdsOk rs) : Lab (nms rs) := fun n hn => by
  obtain ⟨p, hp, rfl⟩ := List.mem_map.mp hn
  exact (h.2.2 p hp).1
theorem mode_wc {m : List Nat} (h : m = q "ahead" ∨ m = q "one") : m.all wc = true ∧ m ≠ [] := by rcases h with rfl | rfl <;> decide
theorem rd_wss {rs : Rds} (h : RdsOk rs) {p : List Nat × List Nat} (hp : p ∈ rs) : wss [p.1, p.2] := wss_cons (label_wc (h.2.2 p hp).1) (wss_cons (mode_wc (h.2.2 p hp).2) wss_nil)
theorem rdT_cut {rs : Rds} (h : RdsOk rs) : spl (q ", ") 0 [] (rdT rs) = rs.map fun p => joinL [32] [p.1, p.2] := by
  refine spl_join (s := 44) (S := [32]) (fun e => ?_) fun w hw => ?_
  · rw [List.map_eq_nil_iff] at e
    have := h.1
    rw [e] at this
    simp at this
  · obtain ⟨p, hp, rfl⟩ := List.mem_map.mp hw
    exact words_not (rd_wss h hp) (by decide) (by decide)
theorem rdT_no {rs : Rds} (h : RdsOk rs) : 10 ∉ rdT rs := fun hm => by
  rcases join_mem hm with e | ⟨w, hw, e⟩
  · exact absurd e (by decide)
  · obtain ⟨p, hp, rfl⟩ := List.mem_map.mp hw
    exact words_not (rd_wss h hp) (by decide) (by decide) e
theorem lines_of {rs : Rds} {b : List It} (h : RdsOk rs) (hb : bOk (nms rs) b) : spl [10] 0 [] (prT rs b) = [rdT rs, bT b] := by
  show spl (10 :: []) 0 [] (rdT rs ++ (10 :: [] ++ bT b)) = _
  rw [spl_part1 (rdT_no h), spl_last1 (bT_no h.lab hb), List.nil_append, List.nil_append]
/-- THERE AND BACK -/
theorem prog_back {rs : Rds} {b : List It} (h : RdsOk rs) (hb : bOk (nms rs) b) (hd : bH b ≤ 8) : progP (prT rs b) = .tup [rdD rs, tb b] := by
  unfold progP
  rw [lines_of h hb]
  show D.tup [.tup ((spl (q ", ") 0 [] (rdT rs)).map fun p => .tup ((spl [32] 0 [] p).map .str)), bodyP 8 (bT b)] = _
  rw [rdT_cut h, body_back h.lab hb hd, List.map_map]
  have : ∀ p ∈ rs, ((fun p : List Nat => D.tup ((spl [32] 0 [] p).map .str)) ∘ fun p : List Nat × List Nat => joinL [32] [p.1, p.2]) p = D.tup [.str p.1, .str p.2] := fun p hp => by
    show D.tup ((spl [32] 0 [] (joinL [32] [p.1, p.2])).map .str) = _
    rw [spl_words (by simp) (rd_wss h hp)]
    rfl
  rw [List.map_congr_left this]
  rfl
theorem rdT_len {rs : Rds} (h : RdsOk rs) : (rdT rs).length ≤ 64 := by
  have one : ∀ p ∈ rs, (joinL [32] [p.1, p.2]).length ≤ 14 := fun p hp => by
    have h1 := lab_len (h.2.2 p hp).1
    have h2 : p.2.length ≤ 5 := by rcases (h.2.2 p hp).2 with e | e <;> rw [e] <;> decide
    simp [joinL]
    omega
  have : ∀ l : List (List Nat), (∀ w ∈ l, w.length ≤ 14) → (joinL (q ", ") l).length ≤ 16 * l.length := by
    intro l
    induction l with
    | nil => intro _; simp [joinL]
    | cons a l ih =>
      intro hl
      have ha := hl a List.mem_cons_self
      have hi := ih fun w hw => hl w (List.mem_cons_of_mem _ hw)
      cases l with
      | nil => simp [joinL]; omega
      | cons c l => simp [joinL, q] at hi ⊢; omega
  have := this (rs.map fun p => joinL [32] [p.1, p.2]) fun w hw => by
    obtain ⟨p, hp, rfl⟩ := List.mem_map.mp hw
    exact one p hp
  rw [List.length_map] at this
  have := h.2.1
  unfold rdT
  omega
end K01

set_option Elab.async false
set_option linter.all false
set_option maxRecDepth 100000
set_option maxHeartbeats 1000000
/-! TXR: readings of the defs on texts. -/
namespace K01
open PySem L2 DL
open TL (joinL spl pre spl_part1 spl_last1 spl_join numL)
theorem strs_map {α : Type} (f : α → List Nat) (l : List α) : strsD (l.map fun a => D.str (f a)) = some (l.map f) := by
  have := strs_mapS (l.map f)
  rw [List.map_map] at this
  exact this
@[simp] def sp_item_text (n : Nat) : SpD := fun ds M Q _ => ∃ ns i, ds = [itD i] ∧ Lab ns ∧ itOk ns i ∧ itH i ≤ n ∧ itN i ≤ 40 ∧ Q (.str (itT i)) M
@[simp] def sp_body_text (n : Nat) : SpD := fun ds M Q _ => ∃ ns b, ds = [tb b] ∧ Lab ns ∧ bOk ns b ∧ bH b ≤ n ∧ bN b ≤ 40 ∧ Q (.str (bT b)) M
theorem hd_words {ns : List (List Nat)} {i : It} (h : itOk ns i) : ∀ d ∈ itHd i, (∃ s, d = .str s) ∨ ∃ k : Nat, d = .int k ∧ k ≤ 3 := by
  intro d hd
  cases i <;> simp [itHd] at hd
  case take r k => rcases hd with rfl | rfl | rfl; exact .inl ⟨_, rfl⟩; exact .inl ⟨_, rfl⟩; exact .inr ⟨k, rfl, h.2.2⟩
  case untl r m => rcases hd with rfl | rfl | rfl <;> exact .inl ⟨_, rfl⟩
  case back r => rcases hd with rfl | rfl <;> exact .inl ⟨_, rfl⟩
  case give r m => rcases hd with rfl | rfl | rfl <;> exact .inl ⟨_, rfl⟩
  case call b => subst hd; exact .inl ⟨_, rfl⟩
  case ifte r m b c => rcases hd with rfl | rfl | rfl <;> exact .inl ⟨_, rfl⟩
  case whil r m b => rcases hd with rfl | rfl | rfl <;> exact .inl ⟨_, rfl⟩
theorem word_len {ns : List (List Nat)} (hn : Lab ns) {i : It} (h : itOk ns i) : ∀ w ∈ (itHd i).map wordS, w.length ≤ 9 := by
  have w : ∀ r, r ∈ ns → (wordS (.str r)).length ≤ 9 := fun r hr => by
    show (wd r).length ≤ 9
    rw [wd_q (lab_ne0 (hn r hr))]
    have := lab_len (hn r hr)
    omega
  have m : ∀ m, (m = [] ∨ MarkOk m) → (wordS (.str m)).length ≤ 9 := fun m hm => by
    have := wd_len hm
    show (wd m).length ≤ 9
    omega
  intro x hx
  obtain ⟨d, hd, rfl⟩ := List.mem_map.mp hx
  cases i <;> simp [itHd] at hd
  case take r k =>
    rcases hd with rfl | rfl | rfl
    · decide
    · exact w r h.1
    · show (numL k).length ≤ 9
      rw [num_len h.2.2]; decide
  case untl r k =>
    rcases hd with rfl | rfl | rfl
    · decide
    · exact w r h.1
    · exact m k (.inr h.2)
  case back r =>
    rcases hd with rfl | rfl
    · decide
    · exact w r h
  case give r k =>
    rcases hd with rfl | rfl | rfl
    · decide
    · exact w r h.1
    · exact w k h.2.1
  case call b => subst hd; decide
  case ifte r k b c =>
    rcases hd with rfl | rfl | rfl
    · decide
    · exact w r h.1
    · exact m k h.2.1
  case whil r k b =>
    rcases hd with rfl | rfl | rfl
    · decide
    · exact w r h.1
    · exact m k h.2.1
theorem hd_len (i : It) : (itHd i).length ≤ 3 := by cases i <;> simp [itHd]
theorem ps_len (i : It) : (itPs i).length ≤ 2 := by cases i <;> simp [itPs]
theorem tyD_str {M : Mm} {s : List Nat} : tyD "str" M (.str s) := rfl
theorem if_word {d : D} (h : (∃ s, d = .str s) ∨ ∃ k : Nat, d = .int k ∧ k ≤ 3) {σ : Sg} {M : Mm} {j : Nat} (hj : σ[j]? = some (some d)) (K : D → Mm → Prop) (hK : K (.str (wordS d)) M) :
    tdIf (tdTest (tdOp dEq (tdVar j) (tdC (.str (q ""))))) (tdC (.str (q "end"))) (tdCB dStrC (tdCons (tdVar j) tdNil)) σ M K := by
  rcases h with ⟨s, rfl⟩ | ⟨k, rfl, hk⟩
  · simp [hj, -Bool.exists_bool]
    have hK : K (.str (wd s)) M := hK
    unfold wd at hK
    by_cases e : s = []
    · subst e; exact hK
    · rw [if_neg e] at hK
      rw [if_neg (show ¬ s = q "" from e)]
      exact hK
  · simp [hj, -Bool.exists_bool]
    exact ⟨by omega, hK⟩
theorem r_item_text (n : Nat) (ds : List D) (M : Mm) (Φ : QD) (Ψ : XD) (h : sp_item_text n ds M Φ Ψ) : t_item_text sp_inner (sp_body_text n) (endD M Φ) (startD n_item_text ds) M := by
  obtain ⟨ns, i, rfl, hn, hi, hH, hN, h⟩ := h
  obtain ⟨w, l, hw⟩ := itHd_str i
  have e0 : itD i = .tup (.str w :: (l ++ (itPs i).map tb)) := by rw [itD_eq, hw]; rfl
  have e1 : innerL (.str w :: (l ++ (itPs i).map tb)) = (itPs i).map tb := by have := inner_it i; rw [hw] at this; exact this
  have e2 : cutD (.str w :: (l ++ (itPs i).map tb)) none (some ((l.length : Int) + (itPs i).length + 1 - (itPs i).length)) = itHd i := by
    rw [show ((l.length : Int) + (itPs i).length + 1 - (itPs i).length) = ((l.length + 1 : Nat) : Int) by omega, cutD_to, hw]
    show (D.str w :: l ++ (itPs i).map tb).take (D.str w :: l).length = _
    rw [List.take_left]
  simp [t_item_text, -Bool.exists_bool, e0, e1, e2, -List.map_append, -tdIf]
  refine ⟨tyD_str, fun p hp => ?_⟩
  have hl := hd_len i
  have eid : (itHd i).map id = itHd i := List.map_id _
  rw [← eid]
  refine lcD_typed id (fun d => .str (wordS d)) _ _ (fun d hd => ⟨_, rfl, fun K hK => if_word (hd_words hi d hd) rfl K hK⟩) (by rw [List.length_nil, sizeLine_eq]; omega) ?_
  refine ⟨_, strs_map wordS _, ⟨9, word_len hn hi, by rw [List.length_map]; simp [q]; omega⟩, ?_⟩
  have eT := itT_eq hn hi
  have lT := itT_len hn hi
  rw [eT] at h lT
  rw [show q " " = [32] from rfl]
  rw [List.length_append] at lT
  by_cases h0 : itPs i = []
  · simp only [h0, if_true, gcR_str, gc_me hp, gc_new hp, gc_self]
    rw [h0, show bodT [] = [] from rfl, List.append_nil] at h
    exact h
  · simp only [h0, if_false]
    simp only [h0, bodT, if_false, List.length_append] at lT h
    have q2 : (q " (").length = 2 := rfl
    have q1 : (q ")").length = 1 := rfl
    rw [q2, q1] at lT
    refine ⟨by rw [q2, sizeLine_eq]; omega, tyD_str, fun p2 hp2 => ?_⟩
    rw [me_mu hp] at hp2 ⊢
    refine lcD_typed tb (fun b => .str (bT b)) _ _ (fun b hb => ⟨_, rfl, fun K hK => ?_⟩) (by have := ps_len i; rw [List.length_nil, sizeLine_eq]; omega) ?_
    · refine ⟨tb b, rfl, ?_⟩
      exact ⟨ns, b, rfl, hn, parts_ok hi b hb, Nat.le_trans (parts_H b hb) hH, by have := parts_N b hb; omega, hK⟩
    · have hb : ∀ w ∈ (itPs i).map bT, w.length ≤ 2000 := fun w hw => by
        obtain ⟨b, hb, rfl⟩ := List.mem_map.mp hw
        have h1 := bT_len hn (parts_ok hi b hb)
        have h2 := parts_N b hb
        omega
      refine ⟨_, strs_map bT _, ⟨2000, hb, by have := ps_len i; rw [List.length_map]; simp [q]; omega⟩, ?_⟩
      rw [sizeLine_eq]
      simp only [gcR_str, gc_me hp2, gc_new hp2, gc_self, q2, q1]
      exact ⟨by omega, by omega, h⟩
theorem r_body_text (n : Nat) (ds : List D) (M : Mm) (Φ : QD) (Ψ : XD) (h : sp_body_text (n + 1) ds M Φ Ψ) : t_body_text (sp_item_text n) (endD M Φ) (startD n_body_text ds) M := by
  obtain ⟨ns, b, rfl, hn, hb, hH, hN, h⟩ := h
  simp [t_body_text, -Bool.exists_bool, tb]
  refine ⟨tyD_str, fun p hp => ?_⟩
  have hlen := len_N b
  rw [bD_map]
  refine lcD_typed itD (fun i => .str (itT i)) _ _ (fun i hi => ⟨_, rfl, fun K hK => ?_⟩) (by rw [List.length_nil, sizeLine_eq]; omega) ?_
  · refine ⟨itD i, rfl, ?_⟩
    exact ⟨ns, i, rfl, hn, bOk_mem.mp hb i hi, by have := bH_mem hi; omega, by have := items_N hi; omega, hK⟩
  · refine ⟨_, strs_map itT _, ⟨2000, fun w hw => ?_, by rw [List.length_map]; simp [q]; omega⟩, ?_⟩
    · obtain ⟨i, hi, rfl⟩ := List.mem_map.mp hw
      have h1 := itT_len hn (bOk_mem.mp hb i hi)
      have h2 := items_N hi
      omega
    · rw [show q "; " = q "; " from rfl, ← bT_join]
      simp only [gcR_str, gc_me hp, gc_new hp, gc_self]
      exact h
end K01

set_option Elab.async false
set_option linter.all false
set_option maxRecDepth 100000
set_option maxHeartbeats 1000000
/-! TXS: readings of the defs that read texts. -/
namespace K01
open PySem L2 DL
open TL (joinL spl pre spl_part1 spl_last1 spl_join numL)
theorem cutD_mid {α : Type} (xs : List α) (a b : Nat) (h : a ≤ b) : cutD xs (some (a : Int)) (some (b : Int)) = (xs.drop a).take (b - a) := by
  unfold cutD
  rw [HT.sIx_nat, HT.sIx_nat]
  by_cases ha : a ≤ xs.length
  · rw [Nat.min_eq_left ha]
    by_cases hb : b ≤ xs.length
    · rw [Nat.min_eq_left hb]
    · rw [Nat.min_eq_right (by omega), List.take_of_length_le (by simp), List.take_of_length_le (by simp; omega)]
  · rw [Nat.min_eq_right (show xs.length ≤ a by omega), List.drop_eq_nil_of_le (Nat.le_refl _), List.drop_eq_nil_of_le (by omega)]
    simp
theorem cutD_but1 {α : Type} (xs : List α) (a : Nat) : cutD xs (some (a : Int)) (some (-1)) = (xs.take (xs.length - 1)).drop a := by
  unfold cutD
  rw [HT.sIx_nat]
  have : HT.sIx xs.length xs.length (some (-1)) = xs.length - 1 := by
    show (if (-1 : Int) < 0 then ((-1 : Int) + (xs.length : Int)).toNat else min (-1 : Int).toNat xs.length) = _
    rw [if_pos (by decide)]
    omega
  rw [this, List.drop_take]
  by_cases ha : a ≤ xs.length
  · rw [Nat.min_eq_left ha]
  · rw [Nat.min_eq_right (show xs.length ≤ a by omega), show xs.length - 1 - xs.length = 0 by omega, show xs.length - 1 - a = 0 by omega, List.take_zero, List.take_zero]
theorem cutD_last {α : Type} (xs : List α) : cutD xs (some (-1)) none = match xs.getLast? with | some c => [c] | none => [] := by
  unfold cutD
  rw [HT.sIx_none]
  have : HT.sIx xs.length 0 (some (-1)) = xs.length - 1 := by
    show (if (-1 : Int) < 0 then ((-1 : Int) + (xs.length : Int)).toNat else min (-1 : Int).toNat xs.length) = _
    rw [if_pos (by decide)]
    omega
  rw [this]
  obtain rfl | ⟨l, c, rfl⟩ := List.eq_nil_or_concat xs
  · rfl
  · rw [List.concat_eq_append, List.getLast?_append, List.length_append, List.length_singleton, Nat.add_sub_cancel, List.drop_left]
    rw [List.take_of_length_le (by simp)]
    rfl
theorem atI_last {α : Type} (xs : List α) : atI xs (-1) = xs.getLast? := by
  unfold atI ixN
  rw [if_neg (by decide)]
  obtain rfl | ⟨l, c, rfl⟩ := List.eq_nil_or_concat xs
  · rfl
  · rw [List.concat_eq_append, if_pos (by simp; omega), List.getLast?_append]
    show (l ++ [c])[(-1 + ((l ++ [c]).length : Int)).toNat]? = _
    rw [show (-1 + ((l ++ [c]).length : Int)).toNat = l.length by simp; omega]
    simp
theorem while_inv {c : TTd} {tb : TSd} {Δ : Ed} (I : Nat → DL.Sg → Mm → Prop) {n : Nat} {σ : DL.Sg} {M : Mm} (h : I n σ M)
    (h1 : ∀ n σ M, I n σ M → ∀ k : Bool → Mm → Prop, (∀ M2, (∀ κ : DL.Sg → Mm → Prop, (∀ m, m < n → ∀ σ3 M3, I m σ3 M3 → κ σ3 M3) → tb ⟨κ, Δ.rt, Δ.nx, κ⟩ σ M2) → k true M2) → (∀ M2, Δ.nx σ M2 → k false M2) → c σ M k) : tdWhile c tb Δ σ M :=
  ⟨n + 1, whN_inv I h1 n σ M h _ (Nat.lt_succ_self _)⟩
def SgOk (sg : List Nat) : Prop := sg ≠ [] ∧ sg.length ≤ 3
@[simp] def sp_cut_up : SpD := fun ds M Q _ => ∃ t sg, ds = [.str t, .str sg] ∧ SgOk sg ∧ t.length ≤ 1000000 ∧ Q (.lst ((cutL sg 0 0 [] t).map .str)) M
theorem pre_take {sg l : List Nat} : pre sg l = true ↔ l.take sg.length = sg := by unfold pre; rw [beq_iff_eq]
theorem r_cut_up (ds : List D) (M : Mm) (Φ : QD) (Ψ : XD) (h : sp_cut_up ds M Φ Ψ) : t_cut_up (endD M Φ) (startD n_cut_up ds) M := by
  obtain ⟨t, sg, rfl, hs, hl, h⟩ := h
  simp [t_cut_up, -Bool.exists_bool]
  intro p hp
  refine ⟨by rw [sizeLine_eq]; omega, ?_⟩
  let I : Nat → DL.Sg → Mm → Prop := fun n σ M1 => ∃ (d : Int) (bg at_ : Nat) (fs : List (List Nat)), n + at_ = t.length ∧ at_ ≤ t.length ∧ bg ≤ at_ ∧ σ = [some (.str t), some (.str sg), some (.ref p), some (.int d), some (.int bg), some (.int at_)] ∧ M1 = mu M p (.lst (fs.map .str)) ∧ fs.length ≤ at_ ∧
    fs ++ cutL sg 0 d ((t.drop bg).take (at_ - bg)) (t.drop at_) = cutL sg 0 0 [] t
  refine while_inv I (n := t.length) ⟨0, 0, 0, [], by simp, Nat.zero_le _, Nat.le_refl _, rfl, rfl, by simp, by simp⟩ ?_
  rintro n σ M1 ⟨d, bg, at_, fs, hn, hal, hb, rfl, rfl, hf, hc⟩ k hk1 hk2
  by_cases ha : at_ < t.length
  · obtain ⟨c, hcd⟩ := TL.getElem_drop_cons (L := t) (a := at_) ha
    have hat : atI t (at_ : Int) = some c := by
      rw [DL.atI_nat]
      have := congrArg (·[0]?) hcd
      simpa using this
    simp [ha, -Bool.exists_bool]
    refine hk1 _ fun κ hκ => ?_
    simp [hat, -Bool.exists_bool]
    have edp : d + ((if [c] = q "(" then (1 : Int) else 0) - if [c] = q ")" then 1 else 0) = dp d c := by
      unfold dp
      simp [show q "(" = [40] from rfl, show q ")" = [41] from rfl]
    have ecut : cutD t (some (at_ : Int)) (some ((at_ : Int) + (sg.length : Int))) = (t.drop at_).take sg.length := by
      rw [show (at_ : Int) + (sg.length : Int) = ((at_ + sg.length : Nat) : Int) by omega, cutD_mid _ _ _ (by omega), Nat.add_sub_cancel_left]
    rw [edp, ecut, cutD_mid _ _ _ hb]
    have hc' := hc
    rw [hcd] at hc'
    have hgc : t[at_]? = some c := by rw [← DL.atI_nat]; exact hat
    have miss : (dp d c = 0 → pre sg (c :: t.drop (at_ + 1)) = false) → κ [some (.str t), some (.str sg), some (.ref p), some (.int (dp d c)), some (.int bg), some (.int ((at_ : Int) + 1))] (mu M p (.lst (fs.map .str))) := fun hm => by
      refine hκ (n - 1) (by omega) _ _ ⟨dp d c, bg, at_ + 1, fs, by omega, by omega, by omega, rfl, rfl, by omega, ?_⟩
      rw [cutL_miss hm] at hc'
      rw [← hc', show at_ + 1 - bg = at_ - bg + 1 by omega, List.take_succ, List.getElem?_drop, show bg + (at_ - bg) = at_ by omega, hgc]
      rfl
    by_cases h0 : dp d c = 0
    · rw [if_pos h0]
      by_cases hp2 : (t.drop at_).take sg.length = sg
      · rw [if_pos hp2]
        have hle : at_ + sg.length ≤ t.length := by
          have := congrArg List.length hp2
          rw [List.length_take, List.length_drop] at this
          have h1 : 0 < sg.length := List.length_pos_iff.mpr hs.1
          omega
        have h1 : 0 < sg.length := List.length_pos_iff.mpr hs.1
        refine ⟨.inl ⟨rfl, _, mu_same⟩, _, mu_same, by rw [List.length_map, sizeLine_eq]; omega, ?_⟩
        rw [mu_mu]
        refine hκ (n - sg.length) (by omega) _ _ ⟨dp d c, at_ + sg.length, at_ + sg.length, fs ++ [(t.drop bg).take (at_ - bg)], by omega, hle, Nat.le_refl _, ?_, by simp, by rw [List.length_append, List.length_singleton]; omega, ?_⟩
        · simp
        · rw [← hc']
          have hit : cutL sg 0 d ((t.drop bg).take (at_ - bg)) (c :: t.drop (at_ + 1)) = (t.drop bg).take (at_ - bg) :: cutL sg (sg.length - 1) (dp d c) [] (t.drop (at_ + 1)) := by
            show (if dp d c = 0 ∧ pre sg (c :: t.drop (at_ + 1)) = true then _ else _) = _
            rw [if_pos ⟨h0, by rw [pre_take, ← hcd]; exact hp2⟩]
          rw [hit, cutL_skip sg (sg.length - 1), List.drop_drop, Nat.sub_self, List.take_zero, List.append_assoc, show at_ + 1 + (sg.length - 1) = at_ + sg.length by omega]
          rfl
      · rw [if_neg hp2]
        refine miss fun _ => ?_
        rw [Bool.eq_false_iff]
        intro hp3
        rw [pre_take, ← hcd] at hp3
        exact hp2 hp3
    · rw [if_neg h0]
      exact miss fun z => absurd z h0
  · simp [ha, -Bool.exists_bool]
    refine hk2 _ ?_
    rw [List.drop_eq_nil_of_le (show t.length ≤ at_ by omega)] at hc
    have e : (t.drop bg).take (at_ - bg) = t.drop bg := List.take_of_length_le (by simp; omega)
    rw [e] at hc
    have hc : fs ++ [t.drop bg] = cutL sg 0 0 [] t := hc
    rw [← hc] at h
    have hlen : fs.length + 1 ≤ sizeLine := by rw [sizeLine_eq]; omega
    simp [vw_ref mu_same, hlen, gc_new hp, -Bool.exists_bool]
    refine ⟨by rw [sizeLine_eq]; omega, ?_⟩
    simpa using h
theorem spl_ne (S : List Nat) : ∀ (l : List Nat) (k : Nat) (acc : List Nat), ∃ w ws, spl S k acc l = w :: ws ∧ ws.length ≤ l.length
  | [], k, acc => ⟨acc, [], TL.spl_nil S k acc, Nat.le_refl _⟩
  | c :: r, k + 1, acc => by
    obtain ⟨w, ws, e, h⟩ := spl_ne S r k acc
    exact ⟨w, ws, e, by rw [List.length_cons]; omega⟩
  | c :: r, 0, acc => by
    cases hp : pre S (c :: r) with
    | true =>
      obtain ⟨w, ws, e, h⟩ := spl_ne S r (S.length - 1) []
      exact ⟨acc, w :: ws, by rw [TL.spl_hit hp, e], by rw [List.length_cons, List.length_cons]; omega⟩
    | false =>
      obtain ⟨w, ws, e, h⟩ := spl_ne S r 0 (acc ++ [c])
      exact ⟨w, ws, by rw [TL.spl_miss hp, e], by rw [List.length_cons]; omega⟩
theorem cutL_len (S : List Nat) : ∀ (l : List Nat) (k : Nat) (d : Int) (acc : List Nat), (cutL S k d acc l).length ≤ l.length + 1 ∧ ∀ p ∈ cutL S k d acc l, p.length ≤ acc.length + l.length
  | [], 0, d, acc => ⟨Nat.le_refl _, fun p h => by obtain rfl := List.mem_singleton.mp h; simp⟩
  | [], k + 1, d, acc => ⟨Nat.le_refl _, fun p h => by obtain rfl := List.mem_singleton.mp h; simp⟩
  | c :: r, k + 1, d, acc => by
    obtain ⟨h1, h2⟩ := cutL_len S r k d acc
    refine ⟨by rw [List.length_cons]; exact Nat.le_succ_of_le h1, fun p hp => ?_⟩
    have := h2 p hp
    rw [List.length_cons]
    omega
  | c :: r, 0, d, acc => by
    unfold cutL
    split
    · obtain ⟨h1, h2⟩ := cutL_len S r (S.length - 1) (dp d c) []
      refine ⟨by rw [List.length_cons, List.length_cons]; omega, fun p hp => ?_⟩
      rw [List.length_cons]
      rcases List.mem_cons.mp hp with rfl | hp
      · omega
      · have := h2 p hp
        simp at this
        omega
    · obtain ⟨h1, h2⟩ := cutL_len S r 0 (dp d c) (acc ++ [c])
      refine ⟨by rw [List.length_cons]; omega, fun p hp => ?_⟩
      have := h2 p hp
      simp at this
      rw [List.length_cons]
      omega
@[simp] def sp_head_in : SpD := fun ds M Q _ => ∃ t, ds = [.str t] ∧ t.length ≤ 1000000 ∧ Q (.tup (headP t)) M
theorem r_head_in (ds : List D) (M : Mm) (Φ : QD) (Ψ : XD) (h : sp_head_in ds M Φ Ψ) : t_head_in (endD M Φ) (startD n_head_in ds) M := by
  obtain ⟨t, rfl, hl, h⟩ := h
  obtain ⟨w, ws, e, hw⟩ := spl_ne [32] t 0 []
  unfold headP at h
  rw [e] at h
  have e : spl (q " ") 0 [] t = w :: ws := e
  simp [t_head_in, -Bool.exists_bool, e, -tdIf]
  refine ⟨rfl, by decide, by decide, by rw [sizeLine_eq]; omega, ?_⟩
  replace h : Φ (.tup (if w = q "take" then (w :: ws).map numW else if (w = q "if" ∨ w = q "while") ∧ ws.length = 2 ∧ ws.getD 1 [] = q "end" then [.str w, .str (ws.getD 0 []), .str []] else (w :: ws).map .str)) M := h
  by_cases h1 : w = q "take"
  · rw [if_pos h1] at h ⊢
    intro p hp
    refine lcD_typed D.str numW (w :: ws) _ (fun x hx => ⟨_, rfl, fun K hK => ?_⟩) (by rw [List.length_nil, List.length_cons, sizeLine_eq]; omega) ?_
    · unfold numW at hK
      simp [-Bool.exists_bool]
      refine ⟨by decide, ?_⟩
      by_cases x1 : x = q "1"
      · rw [if_pos x1] at hK
        rw [if_pos (.inl x1.symm)]
        subst x1
        exact ⟨1, by decide +kernel, by decide, hK⟩
      · rw [if_neg x1] at hK
        by_cases x2 : x = q "2"
        · rw [if_pos x2] at hK
          rw [if_pos (.inr (.inl x2.symm))]
          subst x2
          exact ⟨2, by decide +kernel, by decide, hK⟩
        · rw [if_neg x2] at hK
          by_cases x3 : x = q "3"
          · rw [if_pos x3] at hK
            rw [if_pos (.inr (.inr x3.symm))]
            subst x3
            exact ⟨3, by decide +kernel, by decide, hK⟩
          · rw [if_neg x3] at hK
            rw [if_neg (by rintro (z | z | z); exact x1 z.symm; exact x2 z.symm; exact x3 z.symm)]
            exact hK
    · simp only [gc_me hp, gc_new hp, gc_self]
      exact h
  · rw [if_neg h1] at h ⊢
    refine ⟨by decide, ?_⟩
    by_cases h2 : w = q "if" ∨ w = q "while"
    · rw [if_pos (h2.imp Eq.symm Eq.symm)]
      match ws, hw, h with
      | [], _, h =>
        rw [if_neg (by simp)] at h
        rw [if_neg (by simp)]
        exact h
      | [a], _, h =>
        rw [if_neg (by simp)] at h
        rw [if_neg (by simp)]
        exact h
      | [a, b], _, h =>
        rw [if_pos (by simp)]
        refine ⟨_, rfl, ?_⟩
        simp [-Bool.exists_bool]
        by_cases h3 : b = q "end"
        · rw [if_pos ⟨h2, rfl, h3⟩] at h
          rw [if_pos h3]
          exact ⟨by decide, h⟩
        · rw [if_neg fun z => h3 z.2.2] at h
          rw [if_neg h3]
          exact h
      | _ :: _ :: _ :: _, _, h =>
        rw [if_neg (by simp)] at h
        rw [if_neg (by simp; omega)]
        exact h
    · rw [if_neg fun z => h2 z.1] at h
      rw [if_neg fun z => h2 (z.imp Eq.symm Eq.symm)]
      exact h
@[simp] def sp_body_in (n : Nat) : SpD := fun ds M Q _ => ∃ t, ds = [.str t, .int (9 - (n : Int))] ∧ t.length ≤ 1000000 ∧ Q (bodyP n t) M
@[simp] def sp_item_in (n : Nat) : SpD := fun ds M Q _ => ∃ t, ds = [.str t, .int (8 - (n : Int))] ∧ t.length ≤ 1000000 ∧ Q (itemP (bodyP n) t) M
theorem r_body_in0 (ds : List D) (M : Mm) (Φ : QD) (Ψ : XD) (h : sp_body_in 0 ds M Φ Ψ) : t_body_in sp_cut_up spNo (endD M Φ) (startD n_body_in ds) M := by
  obtain ⟨t, rfl, hl, h⟩ := h
  simp [t_body_in, -Bool.exists_bool]
  exact h
theorem r_body_in (n : Nat) (ds : List D) (M : Mm) (Φ : QD) (Ψ : XD) (h : sp_body_in (n + 1) ds M Φ Ψ) : t_body_in sp_cut_up (sp_item_in n) (endD M Φ) (startD n_body_in ds) M := by
  obtain ⟨t, rfl, hl, h⟩ := h
  simp [t_body_in, -Bool.exists_bool]
  rw [if_neg (by omega)]
  unfold bodyP at h
  by_cases h0 : t = []
  · rw [if_pos h0] at h
    rw [if_pos (show t = q "" from h0)]
    exact h
  · rw [if_neg h0] at h
    rw [if_neg (show ¬ t = q "" from h0)]
    refine ⟨t, q "; ", ⟨rfl, rfl⟩, ⟨by decide, by decide⟩, hl, fun p hp => ?_⟩
    obtain ⟨l1, l2⟩ := cutL_len (q "; ") t 0 0 []
    refine lcD_typed D.str (itemP (bodyP n)) _ _ (fun x hx => ⟨_, rfl, fun K hK => ?_⟩) (by rw [List.length_nil, sizeLine_eq]; omega) ?_
    · refine ⟨_, rfl, _, rfl, x, ?_, ?_, hK⟩
      · rw [show (9 - ((n : Int) + 1)) = 8 - (n : Int) by omega]
      · have := l2 x hx
        simp at this
        omega
    · simp only [gc_me hp, gc_new hp, gc_self]
      exact h
theorem r_item_in (n : Nat) (ds : List D) (M : Mm) (Φ : QD) (Ψ : XD) (h : sp_item_in n ds M Φ Ψ) : t_item_in sp_head_in sp_cut_up (sp_body_in n) (endD M Φ) (startD n_item_in ds) M := by
  obtain ⟨t, rfl, hl, h⟩ := h
  simp [t_item_in, -Bool.exists_bool]
  refine ⟨rfl, by decide, ?_⟩
  unfold itemP at h
  by_cases h1 : findL (q " (") 0 t < 0
  · rw [if_pos (.inl h1)] at h
    rw [if_pos h1]
    exact ⟨hl, h⟩
  · rw [if_neg h1]
    rw [cutD_last]
    by_cases h2 : t.getLast? = some 41
    · rw [if_neg (by rintro (z | z); exact h1 z; exact z h2)] at h
      rw [if_pos (by rw [h2]; rfl)]
      have ef : findL (q " (") 0 t = (((findL (q " (") 0 t).toNat : Nat) : Int) := by omega
      generalize hk : (findL (q " (") 0 t).toNat = k at h ef
      rw [ef, show (k : Int) + 2 = ((k + 2 : Nat) : Int) by omega, cutD_but1, cutD_to]
      refine ⟨_, q " | ", ⟨rfl, rfl⟩, ⟨by decide, by decide⟩, by simp; omega, by simp; omega, fun p hp => ?_⟩
      obtain ⟨l1, l2⟩ := cutL_len (q " | ") ((t.take (t.length - 1)).drop (k + 2)) 0 0 []
      have hlen : ((t.take (t.length - 1)).drop (k + 2)).length ≤ 1000000 := by simp; omega
      refine lcD_typed D.str (bodyP n) _ _ (fun x hx => ⟨_, rfl, fun K hK => ?_⟩) (by rw [List.length_nil, sizeLine_eq]; omega) ?_
      · simp [-Bool.exists_bool]
        refine ⟨x, ⟨rfl, by omega⟩, ?_, hK⟩
        have := l2 x hx
        simp only [List.length_nil] at this
        omega
      · have hh : (headP (t.take k)).length ≤ 1000005 := by
          unfold headP
          obtain ⟨w, ws, e, hw⟩ := spl_ne [32] (t.take k) 0 []
          rw [e]
          have : (t.take k).length ≤ 1000000 := by simp; omega
          show (if _ then _ else if _ then _ else _ : List D).length ≤ _
          split
          · simp; omega
          · split
            · simp
            · simp; omega
        simp only [gc_me hp, gc_new hp, gc_self]
        refine ⟨by rw [sizeLine_eq, List.nil_append, List.length_map]; omega, h⟩
    · rw [if_pos (.inr h2)] at h
      rw [if_neg]
      · exact ⟨hl, h⟩
      · intro z
        apply h2
        cases e : t.getLast? with
        | none => rw [e] at z; cases z
        | some c =>
          rw [e] at z
          have z : [c] = [41] := z
          cases z
          rfl
end K01

set_option Elab.async false
set_option linter.all false
set_option maxRecDepth 100000
set_option maxHeartbeats 1000000
namespace K01
open PySem L2 DL
/-! ### the law's own reading of programs -/
@[simp] def sp_law_is_label : SpD := fun ds M Q _ => match ds with
  | [d] => stdB d = true ∧ Q (.bl (labelD d)) M
  | _ => False
/-- the letters that are none -/
theorem lows_not {s : List Nat} {σ : Sg} {M : Mm} {i : Nat} {Φ : List D → Mm → Prop} (hi : i < σ.length) (hl : s.length ≤ sizeLine) (h : Φ ((s.filter fun c => !isLow c).map fun c => .str [c]) M) :
    lcD (.one i) (tdTest (tdOp dNotIn (tdVar i) (tdC (.str (q "abcdefghijklmnopqrstuvwxyz"))))) (tdVar i) Sta σ (s.map fun c => .str [c]) [] M Φ := by
  refine lcD_of (fun d => !lowD d) id _ _ _ trivial (fun d hd => ?_) (by simpa using hl) ?_
  · obtain ⟨c, _, rfl⟩ := List.mem_map.mp hd
    refine ⟨_, rfl, fun K hK => ?_, fun _ K hK => ?_⟩
    · simp [hi, -Bool.exists_bool]
      exact hK
    · simp [hi, -Bool.exists_bool]
      exact hK
  · rw [List.map_id, List.filter_map]
    exact h
theorem eq_nil_low (s : List Nat) : ((s.filter fun c => !isLow c).map fun c => D.str [c]).isEmpty = s.all isLow := by
  rw [Bool.eq_iff_iff, List.isEmpty_iff, List.map_eq_nil_iff, List.filter_eq_nil_iff, List.all_eq_true]
  simp
theorem r_law_is_label (ds : List D) (M : Mm) (Φ : QD) (Ψ : XD) (h : sp_law_is_label ds M Φ Ψ) : t_law_is_label (endD M Φ) (startD n_law_is_label ds) M := by
  unfold sp_law_is_label at h
  split at h
  case h_2 => exact h.elim
  rename_i d
  obtain ⟨hd, h⟩ := h
  cases d <;> simp [t_law_is_label, stdB, -Bool.exists_bool] at hd ⊢
  case str s =>
    replace h : Φ (.bl (labelS s)) M := h
    by_cases h1 : 1 ≤ s.length
    · by_cases h2 : s.length ≤ 8
      · rw [if_pos (by omega), if_pos (by omega)]
        intro p hp
        refine lows_not (Nat.lt_succ_self 1) (by rw [sizeLine_eq]; omega) ?_
        rw [eq_nil_low, gc_me hp, gc_new hp, gc_self]
        simpa [labelS, h1, h2] using h
      · rw [if_pos (by omega), if_neg (by omega)]
        simpa [labelS, h1, h2] using h
    · rw [if_neg (by omega)]
      simpa [labelS, h1] using h
  all_goals simpa [labelD] using h
@[simp] def sp_law_are_readers : SpD := fun ds M Q _ => match ds with
  | [d] => stdB d = true ∧ Q (.bl (readersD d)) M
  | _ => False
def geAt (rs : List D) : D → Bool
  | .int i => !ltS (nameOf (rs.getD (i - 1).toNat .non)) (nameOf (rs.getD i.toNat .non))
  | _ => false
theorem asc_range (rs : List D) (h : 1 ≤ rs.length) : ((rngD 1 ((rs.length : Int) - 1).toNat).filter (geAt rs)).isEmpty = ascB rs := by
  rw [Bool.eq_iff_iff, List.isEmpty_iff, List.filter_eq_nil_iff]
  unfold ascB
  rw [List.all_eq_true]
  constructor
  · intro h1 p hp
    obtain ⟨i, hi, e⟩ := List.mem_iff_getElem.mp hp
    rw [List.length_zip, List.length_drop] at hi
    rw [List.getElem_zip, List.getElem_drop] at e
    have h2 := h1 (.int (1 + (i : Int))) (List.mem_map.mpr ⟨i, List.mem_range.mpr (by omega), rfl⟩)
    unfold geAt at h2
    have e1 : ((1 : Int) + (i : Int) - 1).toNat = i := by omega
    have e2 : ((1 : Int) + (i : Int)).toNat = 1 + i := by omega
    dsimp only at h2
    rw [e1, e2, List.getD_eq_getElem?_getD, List.getD_eq_getElem?_getD, List.getElem?_eq_getElem (by omega), List.getElem?_eq_getElem (by omega)] at h2
    rw [← e]
    simpa using h2
  · intro h1 d hd
    obtain ⟨i, hi, rfl⟩ := List.mem_map.mp hd
    have hi := List.mem_range.mp hi
    have h2 := h1 (rs[i], rs[1 + i]) (List.mem_iff_getElem.mpr ⟨i, by rw [List.length_zip, List.length_drop]; omega, by rw [List.getElem_zip, List.getElem_drop]⟩)
    unfold geAt
    have e1 : ((1 : Int) + (i : Int) - 1).toNat = i := by omega
    have e2 : ((1 : Int) + (i : Int)).toNat = 1 + i := by omega
    dsimp only
    rw [e1, e2, List.getD_eq_getElem?_getD, List.getD_eq_getElem?_getD, List.getElem?_eq_getElem (by omega), List.getElem?_eq_getElem (by omega)]
    simpa using h2
theorem r_law_are_readers (ds : List D) (M : Mm) (Φ : QD) (Ψ : XD) (h : sp_law_are_readers ds M Φ Ψ) : t_law_are_readers sp_law_is_label (endD M Φ) (startD n_law_are_readers ds) M := by
  unfold sp_law_are_readers at h
  split at h
  case h_2 => exact h.elim
  rename_i d
  obtain ⟨hd, h⟩ := h
  cases d
  case tup rs =>
    replace h : Φ (.bl (readersL rs)) M := h
    have hd := std_tup.mp hd
    simp [t_law_are_readers, -Bool.exists_bool]
    by_cases h1 : 1 ≤ rs.length
    · by_cases h2 : rs.length ≤ 4
      · rw [if_pos (by omega), if_pos (by omega)]
        refine forD_inv (fun rest σ M' => M' = M ∧ (∃ x, σ = [some (.tup rs), x, none]) ∧ ∃ pre, rs = pre ++ rest ∧ ∀ d ∈ pre, readerB d = true) ?_ ?_ _ _ _ ⟨rfl, ⟨_, rfl⟩, [], rfl, fun _ h => by cases h⟩
        · rintro σ M' ⟨rfl, ⟨x, rfl⟩, pre, hp, hall⟩
          rw [List.append_nil] at hp
          subst hp
          refine ⟨trivial, ?_⟩
          simp [-Bool.exists_bool]
          refine ⟨1, _, ⟨rfl, rfl⟩, ⟨by omega, by omega, by omega, by omega⟩, fun p hp => ?_⟩
          refine lcD_of (geAt rs) id _ _ _ trivial (fun d hd => ?_) ?_ ?_
          · obtain ⟨i, hi, rfl⟩ := List.mem_map.mp hd
            have hi := List.mem_range.mp hi
            refine ⟨_, rfl, fun K hK => ?_, fun _ K hK => ?_⟩
            · have e1 : (1 : Int) + (i : Int) - 1 = (i : Int) := by omega
              have e2 : (1 : Int) + (i : Int) = ((1 + i : Nat) : Int) := by omega
              obtain ⟨n1, m1, r1, _⟩ := readerB_inv (hall rs[i] (List.getElem_mem _))
              obtain ⟨n2, m2, r2, _⟩ := readerB_inv (hall rs[1 + i] (List.getElem_mem _))
              have g1 : atI rs (i : Int) = some (.tup [.str n1, .str m1]) := by rw [DL.atI_nat, List.getElem?_eq_getElem (by omega), r1]
              have g2 : atI rs ((1 : Int) + (i : Int)) = some (.tup [.str n2, .str m2]) := by rw [e2, DL.atI_nat, List.getElem?_eq_getElem (by omega), r2]
              have g3 : geAt rs (.int (1 + (i : Int))) = !ltS n1 n2 := by
                unfold geAt
                have e3 : ((1 : Int) + (i : Int) - 1).toNat = i := by omega
                have e4 : ((1 : Int) + (i : Int)).toNat = 1 + i := by omega
                dsimp only
                rw [e3, e4, List.getD_eq_getElem?_getD, List.getD_eq_getElem?_getD, List.getElem?_eq_getElem (by omega), List.getElem?_eq_getElem (by omega), r1, r2]
                rfl
              rw [g3] at hK
              simp [-Bool.exists_bool, g1, g2, e1]
              exact hK
            · simp [-Bool.exists_bool]
              exact hK
          · simp [rngD]
            rw [sizeLine_eq]; omega
          · rw [gc_me hp, gc_new hp, gc_self]
            rw [List.map_id, List.nil_append, asc_range rs h1]
            have e : readersL rs = ascB rs := by
              unfold readersL
              rw [decide_eq_true h1, decide_eq_true h2, List.all_eq_true.mpr hall]
              rfl
            rw [← e]
            exact h
        · rintro d rest σ M' ⟨rfl, ⟨x, rfl⟩, pre, hp, hall⟩
          refine ⟨trivial, _, rfl, fun k hk => ?_⟩
          have bad : readerB d = false → Φ (.bl false) M' := fun hb => by
            have e : readersL rs = false := by
              unfold readersL
              rw [hp, List.all_append, List.all_cons, hb]
              simp
            rw [e] at h
            exact h
          have hdd := hd d (by rw [hp]; simp)
          cases d
          case tup l =>
            have hl := std_tup.mp hdd
            match l, hl with
            | [], hl => 
              simp [-Bool.exists_bool]
              exact bad rfl
            | [a], hl =>
              simp [-Bool.exists_bool]
              exact bad rfl
            | a :: b :: c :: l, hl =>
              simp [-Bool.exists_bool]
              rw [if_neg (by omega)]
              exact bad (by cases b <;> rfl)
            | [a, b], hl =>
              have ha := hl a (by simp)
              have hb := hl b (by simp)
              simp [-Bool.exists_bool, ha]
              cases b <;> simp [stdB, -Bool.exists_bool] at hb ⊢
              case str m =>
                have e : readerB (.tup [a, .str m]) = (labelD a && (m == q "ahead" || m == q "one")) := rfl
                by_cases h3 : labelD a = true
                · rw [if_pos h3]
                  refine ⟨by decide, ?_⟩
                  by_cases h4 : m = q "ahead" ∨ m = q "one"
                  · rw [if_pos (h4.imp Eq.symm Eq.symm)]
                    refine hk _ _ ⟨rfl, ⟨_, rfl⟩, pre ++ [.tup [a, .str m]], by rw [hp]; simp, fun d hd => ?_⟩
                    rcases List.mem_append.mp hd with z | z
                    · exact hall d z
                    · rw [List.mem_singleton.mp z, e, h3]
                      simpa using h4
                  · rw [if_neg fun z => h4 (z.imp Eq.symm Eq.symm)]
                    exact bad (by rw [e, h3]; simpa using h4)
                · rw [if_neg h3]
                  exact bad (by rw [e, Bool.eq_false_iff.mpr h3, Bool.false_and])
              all_goals exact bad rfl
          all_goals simp [stdB] at hdd
          all_goals simp [-Bool.exists_bool]
          all_goals exact bad rfl
      · rw [if_pos (by omega), if_neg (by omega)]
        simpa [readersL, h1, h2] using h
    · rw [if_neg (by omega)]
      simpa [readersL, h1] using h
  all_goals simp [t_law_are_readers, stdB] at hd ⊢
  all_goals simpa [readersD] using h
@[simp] def sp_law_is_mark : SpD := fun ds M Q _ => match ds with
  | [d, .bl b] => stdB d = true ∧ Q (.bl (if b = true then markE d else markD d)) M
  | _ => False
theorem r_law_is_mark (ds : List D) (M : Mm) (Φ : QD) (Ψ : XD) (h : sp_law_is_mark ds M Φ Ψ) : t_law_is_mark sp_law_is_label (endD M Φ) (startD n_law_is_mark ds) M := by
  unfold sp_law_is_mark at h
  split at h
  case h_2 => exact h.elim
  rename_i d b
  obtain ⟨hd, h⟩ := h
  cases d
  case str z =>
    simp [t_law_is_mark, stdB, -Bool.exists_bool, labelD]
    have e2 : ((z.length : Int) == 1) = decide (z.length = 1) := by rw [Bool.eq_iff_iff]; simp; omega
    have e3 : markE (.str z) = (decide (z = []) || (labelS z && decide (z.length = 1))) := rfl
    have e4 : markD (.str z) = (labelS z && decide (z.length = 1)) := rfl
    rw [e3, e4] at h
    by_cases hz : z = q ""
    · rw [if_pos hz]
      have hz : z = [] := hz
      subst hz
      cases b <;> exact h
    · rw [if_neg hz]
      have e5 : decide (z = []) = false := decide_eq_false hz
      rw [e5, Bool.false_or, ite_self] at h
      rw [e2]
      by_cases hl : labelS z = true
      · rw [if_pos hl]
        rw [hl, Bool.true_and] at h
        exact h
      · rw [if_neg hl]
        rw [Bool.eq_false_iff.mpr hl, Bool.false_and] at h
        exact h
  all_goals simp [t_law_is_mark, stdB, labelD, -Bool.exists_bool] at hd ⊢
  all_goals first | (refine ⟨hd, ?_⟩; cases b <;> exact h) | (cases b <;> exact h)
theorem neD_comm (x y : D) : neD x y = neD y x := by
  cases x <;> cases y <;> simp [neD]
  exact Bool.beq_comm
@[simp] def sp_law_is_simple : SpD := fun ds M Q _ => match ds with
  | [.lst ns, .tup (.str w :: l)] => ∃ zs, ns = zs.map .str ∧ (∀ d ∈ l, stdB d = true) ∧ Q (.bl (simpleL zs (.str w :: l))) M
  | _ => False
theorem r_law_is_simple (ds : List D) (M : Mm) (Φ : QD) (Ψ : XD) (h : sp_law_is_simple ds M Φ Ψ) : t_law_is_simple sp_law_is_mark (endD M Φ) (startD n_law_is_simple ds) M := by
  unfold sp_law_is_simple at h
  split at h
  case h_2 => exact h.elim
  rename_i ns0 w l
  obtain ⟨ns, rfl, hl, h⟩ := h
  match l, hl with
  | [], hl =>
    simp [t_law_is_simple, -Bool.exists_bool]
    exact h
  | [x], hl =>
    have hx := hl x (by simp)
    cases x
    case str z =>
      replace h : Φ (.bl (nameB ns (.str z) && decide (w = q "back"))) M := h
      have e : nameB ns (.str z) = decide (z ∈ ns) := rfl
      rw [e] at h
      simp [t_law_is_simple, -Bool.exists_bool, inC_strs]
      by_cases hz : z ∈ ns
      · rw [if_pos hz]
        rw [decide_eq_true hz, Bool.true_and] at h
        by_cases hw : w = q "back"
        · rw [if_pos hw]
          rw [decide_eq_true hw] at h
          exact h
        · rw [if_neg hw]
          rw [decide_eq_false hw] at h
          exact h
      · rw [if_neg hz]
        rw [decide_eq_false hz] at h
        exact h
    all_goals simp [stdB] at hx
    all_goals simp [t_law_is_simple, -Bool.exists_bool, inC_strs]
    all_goals exact h
  | [x, y], hl =>
    have hx := hl x (by simp)
    have hy := hl y (by simp)
    cases x
    case str z =>
      replace h : Φ (.bl (nameB ns (.str z) && (if w = q "back" then false else if w = q "take" then wholeD 1 3 y else if w = q "until" then markD y else if w = q "give" then nameB ns y && !neD (.str z) y else false))) M := h
      have e : nameB ns (.str z) = decide (z ∈ ns) := rfl
      rw [e] at h
      simp [t_law_is_simple, -Bool.exists_bool, inC_strs]
      by_cases hz : z ∈ ns
      · rw [if_pos hz]
        rw [decide_eq_true hz, Bool.true_and] at h
        by_cases h2 : w = q "back"
        · rw [if_pos h2] at h ⊢
          exact h
        · rw [if_neg h2] at h ⊢
          by_cases h3 : w = q "take"
          · rw [if_pos h3] at h ⊢
            cases y
            case int i =>
              replace h : Φ (.bl (decide (1 ≤ i) && decide (i ≤ 3))) M := h
              simp [-Bool.exists_bool]
              by_cases hi : 1 ≤ i
              · rw [if_pos hi]
                rw [decide_eq_true hi, Bool.true_and] at h
                exact h
              · rw [if_neg hi]
                rw [decide_eq_false hi] at h
                exact h
            all_goals simp [stdB] at hy
            all_goals simp [-Bool.exists_bool]
            all_goals exact h
          · rw [if_neg h3] at h ⊢
            by_cases h4 : w = q "until"
            · rw [if_pos h4] at h ⊢
              exact ⟨hy, h⟩
            · rw [if_neg h4] at h ⊢
              by_cases h5 : w = q "give"
              · rw [if_pos h5] at h ⊢
                cases y
                case str y =>
                  have e2 : nameB ns (.str y) = decide (y ∈ ns) := rfl
                  have e3 : neD (.str z) (.str y) = (y == z) := Bool.beq_comm
                  rw [e2, e3] at h
                  simp [-Bool.exists_bool, inC_strs]
                  by_cases hz2 : y ∈ ns
                  · rw [if_pos hz2]
                    rw [decide_eq_true hz2, Bool.true_and] at h
                    exact h
                  · rw [if_neg hz2]
                    rw [decide_eq_false hz2] at h
                    exact h
                all_goals simp [stdB] at hy
                all_goals simp [-Bool.exists_bool]
                all_goals exact h
              · rw [if_neg h5] at h ⊢
                exact h
      · rw [if_neg hz]
        rw [decide_eq_false hz] at h
        exact h
    all_goals simp [stdB] at hx
    all_goals simp [t_law_is_simple, -Bool.exists_bool, inC_strs]
    all_goals exact h
  | x :: y :: z :: l, hl =>
    have hx := hl x (by simp)
    replace h : Φ (.bl false) M := h
    cases x
    case str z =>
      simp [t_law_is_simple, -Bool.exists_bool, inC_strs]
      rw [if_neg (by omega)]
      by_cases hz : z ∈ ns
      · rw [if_pos hz]
        by_cases h2 : w = q "back"
        · rw [if_pos h2]
          have e : ((l.length : Int) + 1 + 1 + 1 + 1 == 2) = false := by simp; omega
          rw [e]
          exact h
        · rw [if_neg h2, if_neg (by omega)]
          exact h
      · rw [if_neg hz]
        exact h
    all_goals simp [stdB] at hx
    all_goals simp [t_law_is_simple, -Bool.exists_bool, inC_strs]
    all_goals exact h
end K01

set_option Elab.async false
set_option linter.all false
set_option maxRecDepth 100000
set_option maxHeartbeats 1000000
namespace K01
open PySem L2 DL
/-! ### how much a value holds -/
mutual
def wt : D → Nat
  | .tup ds => 1 + wts ds
  | .lst ds => 1 + wts ds
  | .non => 1
  | .bl _ => 1
  | .int _ => 1
  | .str _ => 1
  | .ref _ => 1
  | .ty _ => 1
def wts : List D → Nat
  | [] => 0
  | d :: ds => wt d + wts ds
end
theorem wts_app : ∀ (a b : List D), wts (a ++ b) = wts a + wts b
  | [], b => by simp [wts]
  | x :: a, b => by rw [List.cons_append, wts, wts, wts_app a b]; omega
theorem wts_drop : ∀ (l : List D) (n : Nat), wts (l.drop n) ≤ wts l
  | _, 0 => by simp
  | [], n + 1 => by simp
  | x :: l, n + 1 => by rw [List.drop_succ_cons, wts]; have := wts_drop l n; omega
theorem wt_pos : ∀ d : D, 1 ≤ wt d
  | .tup ds => by rw [wt]; omega
  | .lst ds => by rw [wt]; omega
  | .non | .bl _ | .int _ | .str _ | .ref _ | .ty _ => by simp [wt]
theorem wts_inner {w : List Nat} {l : List D} : wts (innerL (.str w :: l)) ≤ wts l := by
  have e : innerL (.str w :: l) = (if w = q "if" ∨ w = q "while" then (D.str w :: l).drop 3 else if w = q "call" then l else []) := rfl
  rw [e]
  split
  · exact wts_drop l 2
  · split
    · exact Nat.le_refl _
    · simp [wts]
theorem sumO_wts {f : D → Option Nat} : ∀ {l : List D} {m : Nat}, sumO (l.map f) = some m → (∀ x ∈ l, ∀ a, f x = some a → a ≤ wt x) → m ≤ wts l
  | [], m, h, _ => by cases h; exact Nat.zero_le _
  | y :: l, m, h, hg => by
    rw [List.map_cons] at h
    cases e : f y with
    | none => rw [e] at h; cases h
    | some a =>
      rw [e] at h
      have h : (sumO (l.map f)).map (a + ·) = some m := h
      cases e2 : sumO (l.map f) with
      | none => rw [e2] at h; cases h
      | some c =>
        rw [e2] at h
        have h : some (a + c) = some m := h
        cases h
        have h1 := hg y List.mem_cons_self a e
        have h2 := sumO_wts e2 fun x hx => hg x (List.mem_cons_of_mem _ hx)
        rw [wts]
        omega
theorem sizeI_wt {ns : List (List Nat)} {sz : D → Option Nat} (hz : ∀ d a, sz d = some a → a ≤ wt d) {it : D} {m : Nat} (h : sizeI ns sz it = some m) : m ≤ wt it := by
  obtain ⟨w, l, rfl, h3⟩ := sizeI_inv h
  clear h
  rw [wt, wts]
  have := wts_inner (w := w) (l := l)
  rcases h3 with ⟨_, _, m', h1, rfl⟩ | ⟨_, _, rfl⟩
  · have := sumO_wts h1 fun x _ a e => hz x a e
    have := wt_pos (.str w)
    omega
  · omega
theorem sizeB_wt {ns : List (List Nat)} : ∀ (n : Nat) (b : D) (m : Nat), sizeB ns n b = some m → m ≤ wt b
  | 0, b, m, h => by cases h
  | n + 1, b, m, h => by
    cases b with
    | tup ds =>
      have h : sumO (ds.map (sizeI ns (sizeB ns n))) = some m := h
      have := sumO_wts h fun x _ a e => sizeI_wt (fun d a' e' => sizeB_wt n d a' e') e
      rw [wt]
      omega
    | _ => cases h
/-! ### the law's size -/
@[simp] theorem tyD_mu {M : Mm} {p : Addr} {ds : List D} : tyD "list" (mu M p (.lst ds)) (.ref p) = True := by
  refine eq_true (.inl ⟨rfl, ds, mu_same⟩)
/-- what comes of it: the size and the marks noted, or none -/
def SizeR (ns : List (List Nat)) (n : Nat) (M : Mm) (p : Addr) (ms : List (List Nat)) (b : D) (Q : QD) : Prop :=
  (∀ m, sizeB ns n b = some m → Q (.int m) (mu M p (.lst ((ms ++ marksB n b).map .str)))) ∧ (sizeB ns n b = none → ∀ ms' : List (List Nat), Q .non (mu M p (.lst (ms'.map .str))))
@[simp] def sp_law_size (n : Nat) : SpD := fun ds M Q _ => match ds with
  | [.lst ns, b, .int d, .ref p] => ∃ (zs ms : List (List Nat)), ns = zs.map .str ∧ stdB b = true ∧ d = 9 - (n : Int) ∧ M p = some (.lst (ms.map .str)) ∧ ms.length + wt b < 1000000 ∧ SizeR zs n M p ms b Q
  | _ => False
theorem r_law_size0 (ds : List D) (M : Mm) (Φ : QD) (Ψ : XD) (h : sp_law_size 0 ds M Φ Ψ) : t_law_size sp_law_is_mark sp_law_is_simple spNo (endD M Φ) (startD n_law_size ds) M := by
  unfold sp_law_size at h
  split at h
  case h_2 => exact h.elim
  rename_i ns0 b d p
  obtain ⟨ns, ms, rfl, hb, rfl, hp, hl, h⟩ := h
  replace h : Φ .non M := by
    have := h.2 rfl ms
    rw [mu_id hp] at this
    exact this
  cases b <;> simp [t_law_size, stdB, -Bool.exists_bool] at hb ⊢ <;> exact h
/-- the bodies of a step -/
theorem law_parts {n : Nat} {ns : List (List Nat)} {b st pt : D} {dd : Int} {x y : Option D} {M : Mm} {p : Addr} {parts : List D} {nx b' c' : Sg → Mm → Prop} {rt : QD} (hd : dd = 8 - (n : Int)) (hi : ∀ d ∈ parts, stdB d = true) {a0 : Nat} {cur : List (List Nat)}
    (hl : cur.length + wts parts < 1000000)
    (hs : ∀ m, sumO (parts.map (sizeB ns n)) = some m → ∀ x y, nx [some (.lst (ns.map .str)), some b, some (.int dd), some (.ref p), some (.int ((a0 + m : Nat) : Int)), some st, some pt, x, y] (mu M p (.lst ((cur ++ (parts.map (marksB n)).flatten).map .str))))
    (hn : sumO (parts.map (sizeB ns n)) = none → ∀ ms' : List (List Nat), rt .non (mu M p (.lst (ms'.map .str)))) :
    forD (.one 7) (tdSeq (tdSet 8 (tdCall (sp_law_size n) (tdCons (tdVar 0) (tdCons (tdVar 7) (tdCons (tdOp dAdd (tdVar 2) (tdC (.int 1))) (tdCons (tdVar 3) tdNil)))))) (tdSeq (tdIfS (tdTest (tdOp dIsN (tdVar 8) (tdC .non))) (tdRet (tdC .non)) tdNext) (tdSet 4 (tdOp dAdd (tdVar 4) (tdVar 8))))) Sta parts
      ⟨nx, rt, b', c'⟩ [some (.lst (ns.map .str)), some b, some (.int dd), some (.ref p), some (.int a0), some st, some pt, x, y] (mu M p (.lst (cur.map .str))) := by
  refine forD_inv (fun rest σ M' => ∃ (pre : List D) (acc : Nat) (x y : Option D), parts = pre ++ rest ∧ sumO (pre.map (sizeB ns n)) = some acc ∧ M' = mu M p (.lst ((cur ++ (pre.map (marksB n)).flatten).map .str)) ∧ σ = [some (.lst (ns.map .str)), some b, some (.int dd), some (.ref p), some (.int ((a0 + acc : Nat) : Int)), some st, some pt, x, y]) ?_ ?_ _ _ _ ⟨[], 0, x, y, rfl, rfl, by simp, rfl⟩
  · rintro σ M' ⟨pre, acc, x, y, hp, hsum, rfl, rfl⟩
    rw [List.append_nil] at hp
    subst hp
    exact ⟨trivial, hs acc hsum x y⟩
  · rintro d rest σ M' ⟨pre, acc, x, y, hp, hsum, rfl, rfl⟩
    refine ⟨trivial, _, rfl, fun k hk => ?_⟩
    have hdd := hi d (by rw [hp]; simp)
    have hlen : ((pre.map (marksB n)).flatten).length ≤ wts pre := Nat.le_trans (sumO_len hsum fun x _ a e => marks_le n x a e) (sumO_wts hsum fun x _ a e => sizeB_wt n x a e)
    rw [hp, wts_app, wts] at hl
    have e : sumO (parts.map (sizeB ns n)) = (sumO (sizeB ns n d :: rest.map (sizeB ns n))).map (acc + ·) := by
      rw [hp, List.map_append, List.map_cons, sumO_app hsum]
    simp only [tdSeq, tdSet, tdCall, tdCons, tdVar, tdOp, tdC, tdNil]
    simp [-Bool.exists_bool, -List.length_flatten, -List.map_append, mu_same, mu_mu, hdd]
    refine ⟨ns, rfl, by omega, _, rfl, by rw [List.length_append]; omega, ?_⟩
    cases hz : sizeB ns n d with
    | none =>
      rw [hz] at e
      exact ⟨fun m hm => (by rw [hz] at hm; cases hm), fun _ ms' => by rw [mu_mu]; exact hn e ms'⟩
    | some m =>
      refine ⟨fun m' hm => ?_, fun hm => (by rw [hz] at hm; cases hm)⟩
      rw [hz] at hm
      cases hm
      simp [-List.length_flatten, -List.map_append, mu_same, mu_mu]
      refine hk _ _ ⟨pre ++ [d], acc + m, some d, some (.int m), by rw [hp]; simp, ?_, by simp, by simp; omega⟩
      rw [List.map_append, sumO_app hsum, List.map_cons, hz]
      rfl
theorem r_law_size (n : Nat) (ds : List D) (M : Mm) (Φ : QD) (Ψ : XD) (h : sp_law_size (n + 1) ds M Φ Ψ) : t_law_size sp_law_is_mark sp_law_is_simple (sp_law_size n) (endD M Φ) (startD n_law_size ds) M := by
  unfold sp_law_size at h
  split at h
  case h_2 => exact h.elim
  rename_i ns0 b d p
  obtain ⟨ns, ms, rfl, hb, rfl, hp, hl, h⟩ := h
  have bad : sizeB ns (n + 1) b = none → ∀ ms' : List (List Nat), Φ .non (mu M p (.lst (ms'.map .str))) := h.2
  have bad0 : sizeB ns (n + 1) b = none → Φ .non M := fun e => by
    have := bad e ms
    rw [mu_id hp] at this
    exact this
  cases b
  case tup items =>
    have hi := std_tup.mp hb
    have esz : sizeB ns (n + 1) (.tup items) = sumO (items.map (sizeI ns (sizeB ns n))) := rfl
    have emk : marksB (n + 1) (.tup items) = (items.map (marksI (marksB n))).flatten := rfl
    rw [esz] at bad bad0
    simp [t_law_size, -Bool.exists_bool]
    rw [if_neg (by omega)]
    have hm0 : M = mu M p (.lst (ms.map .str)) := (mu_id hp).symm
    have hpn : M p ≠ none := by rw [hp]; simp
    refine forD_inv (fun rest σ M' => ∃ (pre : List D) (acc : Nat) (x1 x2 x3 x4 : Option D), items = pre ++ rest ∧ sumO (pre.map (sizeI ns (sizeB ns n))) = some acc ∧ M' = mu M p (.lst ((ms ++ (pre.map (marksI (marksB n))).flatten).map .str)) ∧ σ = [some (.lst (ns.map .str)), some (.tup items), some (.int (9 - ((n : Int) + 1))), some (.ref p), some (.int (acc : Int)), x1, x2, x3, x4]) ?_ ?_ _ _ _ ⟨[], 0, none, none, none, none, rfl, rfl, by simpa using hm0, rfl⟩
    · rintro σ M' ⟨pre, acc, x1, x2, x3, x4, hpre, hsum, rfl, rfl⟩
      rw [List.append_nil] at hpre
      subst hpre
      refine ⟨trivial, ?_⟩
      have := h.1 acc hsum
      rw [emk] at this
      simp [gc_old hpn]
      simpa using this
    · rintro d rest σ M' ⟨pre, acc, x1, x2, x3, x4, hpre, hsum, rfl, rfl⟩
      refine ⟨trivial, _, rfl, fun k hk => ?_⟩
      have hdd := hi d (by rw [hpre]; simp)
      have e : sumO (items.map (sizeI ns (sizeB ns n))) = (sumO (sizeI ns (sizeB ns n) d :: rest.map (sizeI ns (sizeB ns n)))).map (acc + ·) := by
        rw [hpre, List.map_append, List.map_cons, sumO_app hsum]
      have bad2 : sizeI ns (sizeB ns n) d = none → ∀ ms' : List (List Nat), Φ .non (mu M p (.lst (ms'.map .str))) := fun hz => by
        rw [hz] at e
        exact bad e
      have hlen : ((pre.map (marksI (marksB n))).flatten).length ≤ wts pre := Nat.le_trans (sumO_len hsum fun x _ a e => marksI_le (fun d a e => marks_le n d a e) e) (sumO_wts hsum fun x _ a e => sizeI_wt (fun d a e => sizeB_wt n d a e) e)
      rw [wt, hpre, wts_app, wts] at hl
      cases d
      case tup l =>
        cases l with
        | nil =>
          have := bad2 rfl
          refine seq_stop fun kk => ?_
          simp [-Bool.exists_bool, gc_old hpn, -List.map_append]
          exact this _
        | cons w l =>
          have hl2 := std_tup.mp hdd
          have hw := hl2 w List.mem_cons_self
          have hlo : ∀ d ∈ l, stdB d = true := fun d hd => hl2 d (List.mem_cons_of_mem _ hd)
          cases w
          case str w =>
            have egc : ∀ ms' : List (List Nat), gc M (mu M p (.lst (ms'.map .str))) = mu M p (.lst (ms'.map .str)) := fun ms' => by rw [gc_old hpn, gc_self]
            have esi : sizeI ns (sizeB ns n) (.tup (.str w :: l)) = (if hasBody w = true then (if headL ns (.str w :: l) = true then (sumO ((innerL (.str w :: l)).map (sizeB ns n))).map (1 + ·) else none) else if simpleL ns (.str w :: l) = true then some 1 else none) := rfl
            have ehe : headL ns (.str w :: l) = (if w = q "call" then decide (l.length = 1) else lookL ns (.str w :: l)) := rfl
            have ein : innerL (.str w :: l) = (if w = q "if" ∨ w = q "while" then (D.str w :: l).drop 3 else if w = q "call" then l else []) := rfl
            generalize hcur : ms ++ (pre.map (marksI (marksB n))).flatten = cur at hk
            have hclen : cur.length + (wt (.tup (.str w :: l)) + wts rest) < 1000000 := by
              rw [← hcur, List.length_append]
              omega
            refine seq_skip ?_ fun kk hkk => by simpa [-Bool.exists_bool] using hkk
            refine seq_to [some (.lst (ns.map .str)), some (.tup items), some (.int (9 - ((n : Int) + 1))), some (.ref p), some (.int (acc : Int)), some (.tup (.str w :: l)), some (.tup []), x3, x4] (mu M p (.lst (cur.map .str))) ?_ fun kk hkk => by simpa using hkk
            refine seq_cut (fun σ2 M2 => M2 = mu M p (.lst (cur.map .str)) ∧ σ2 = [some (.lst (ns.map .str)), some (.tup items), some (.int (9 - ((n : Int) + 1))), some (.ref p), some (.int (acc : Int)), some (.tup (.str w :: l)), some (.tup (innerL (.str w :: l))), x3, x4] ∧ ((hasBody w = true ∧ headL ns (.str w :: l) = true) ∨ (hasBody w = false ∧ simpleL ns (.str w :: l) = true))) ?_ fun kk hkk => ?_
            · rintro σ2 M2 ⟨rfl, rfl, hv⟩
              have hmk : (q "until" = w ∨ q "if" = w ∨ q "while" = w) ↔ isMk w = true := by
                unfold isMk
                rw [Bool.or_eq_true, Bool.or_eq_true, beq_iff_eq, beq_iff_eq, beq_iff_eq, or_assoc]
                exact ⟨fun z => z.imp Eq.symm fun z => z.imp Eq.symm Eq.symm, fun z => z.imp Eq.symm fun z => z.imp Eq.symm Eq.symm⟩
              have hso : ∀ m', sumO ((innerL (.str w :: l)).map (sizeB ns n)) = some m' → sizeI ns (sizeB ns n) (.tup (.str w :: l)) = some (1 + m') := fun m' hm' => by
                rw [esi]
                rcases hv with ⟨h1, h2⟩ | ⟨h1, h2⟩
                · rw [if_pos h1, if_pos h2, hm']
                  rfl
                · rw [if_neg (by rw [h1]; exact Bool.false_ne_true), if_pos h2]
                  rw [simple_inner h1] at hm'
                  cases hm'
                  rfl
              have hno : sumO ((innerL (.str w :: l)).map (sizeB ns n)) = none → sizeI ns (sizeB ns n) (.tup (.str w :: l)) = none := fun hm' => by
                rw [esi]
                rcases hv with ⟨h1, h2⟩ | ⟨h1, h2⟩
                · rw [if_pos h1, if_pos h2, hm']
                  rfl
                · rw [simple_inner h1] at hm'
                  cases hm'
              have howle := ownM_le (.str w :: l)
              have hwin := wts_inner (w := w) (l := l)
              rw [wt, wts] at hclen
              have hws := wt_pos (.str w)
              refine seq_to [some (.lst (ns.map .str)), some (.tup items), some (.int (9 - ((n : Int) + 1))), some (.ref p), some (.int (acc : Int)), some (.tup (.str w :: l)), some (.tup (innerL (.str w :: l))), x3, x4] (mu M p (.lst ((cur ++ ownM (.str w :: l)).map .str))) ?_ fun kk hkk => ?_
              · refine seq_to [some (.lst (ns.map .str)), some (.tup items), some (.int (9 - ((n : Int) + 1))), some (.ref p), some (.int ((acc + 1 : Nat) : Int)), some (.tup (.str w :: l)), some (.tup (innerL (.str w :: l))), x3, x4] (mu M p (.lst ((cur ++ ownM (.str w :: l)).map .str))) ?_ fun kk hkk => by simpa using hkk
                simp only [tdFor, tdSeqI, tdVar, List.getElem?_cons_succ, List.getElem?_cons_zero, Option.some.injEq, exists_eq_left']
                refine law_parts (by omega) (fun d hd => hlo d (innerL_mem hd)) (by rw [List.length_append]; omega) (fun m hm x y => ?_) fun hm ms' => ?_
                · refine hk _ _ ⟨pre ++ [.tup (.str w :: l)], acc + (1 + m), some (.tup (.str w :: l)), some (.tup (innerL (.str w :: l))), x, y, by rw [hpre]; simp, ?_, ?_, ?_⟩
                  · rw [List.map_append, sumO_app hsum, List.map_cons, hso m hm]
                    rfl
                  · rw [← hcur]
                    simp [marksI]
                  · have e9 : acc + 1 + m = acc + (1 + m) := by omega
                    rw [e9]
                · show Φ .non (gc M _)
                  rw [egc]
                  exact bad2 (hno hm) ms'
              · rcases own_cases hv with ⟨hi2, x', z, r, rfl⟩ | hi2
                · have ho : ownM (.str w :: x' :: .str z :: r) = if isMk w = true ∧ z ≠ [] then [z] else [] := rfl
                  simp [-Bool.exists_bool, -List.map_append, mu_same, mu_mu]
                  refine ⟨by decide, ?_⟩
                  rw [if_pos (hmk.mpr hi2)]
                  by_cases hz : z = q ""
                  · rw [if_pos hz]
                    rw [ho, if_neg fun c => c.2 hz, List.append_nil] at hkk
                    exact hkk
                  · rw [if_neg hz]
                    rw [ho, if_pos ⟨hi2, hz⟩, List.map_append] at hkk
                    exact ⟨by rw [sizeLine_eq]; omega, hkk⟩
                · have ho : ownM (.str w :: l) = [] := by
                    unfold ownM
                    split
                    · rename_i w' _ z _ e
                      cases e
                      rw [if_neg (by rw [hi2]; exact fun c => Bool.false_ne_true c.1)]
                    · rfl
                  rw [ho, List.append_nil] at hkk
                  simp [-Bool.exists_bool, -List.map_append, mu_same, mu_mu]
                  refine ⟨by decide, ?_⟩
                  rw [if_neg fun c => Bool.false_ne_true (hi2.symm.trans (hmk.mp c))]
                  exact hkk
            · simp [-Bool.exists_bool, -List.map_append, mu_mu, mu_same]
              have bad3 : sizeI ns (sizeB ns n) (.tup (.str w :: l)) = none → Φ .non (gc M (mu M p (.lst (cur.map .str)))) := fun hz => by
                rw [egc]
                exact bad2 hz cur
              rw [esi, ehe] at bad3
              by_cases hc : w = q "call"
              · have hB : hasBody w = true := hasBody_iff.mpr (.inr (.inr hc))
                rw [if_pos hB, if_pos hc] at bad3
                rw [if_pos hc]
                by_cases h3 : l.length = 1
                · rw [if_pos (by omega)]
                  refine hkk _ _ ⟨rfl, ?_, .inl ⟨hB, ?_⟩⟩
                  · rw [ein, if_neg (by rw [hc]; exact fun z => z.elim q_ne q_ne), if_pos hc]
                  · rw [ehe, if_pos hc]
                    exact decide_eq_true h3
                · rw [if_neg (by omega)]
                  exact bad3 (by rw [if_neg (by rw [decide_eq_true_iff]; exact h3)])
              · rw [if_neg hc] at bad3 ⊢
                refine ⟨by decide, ?_⟩
                by_cases hiw : w = q "if" ∨ w = q "while"
                · have hB : hasBody w = true := hasBody_iff.mpr (hiw.imp id .inl)
                  rw [if_pos hB] at bad3
                  rw [if_pos (hiw.imp Eq.symm Eq.symm)]
                  have hx : ∃ x : Nat, valV (dixL [("if", 5), ("while", 4)]) (Sum.inr { cps := w.toArray }) = some (V.int (x : Int)) ∧ x = (if w = q "while" then 4 else 5) := by
                    rcases hiw with z | z
                    · subst z
                      exact ⟨5, by decide +kernel, by rw [if_neg q_ne]⟩
                    · subst z
                      exact ⟨4, by decide +kernel, by rw [if_pos rfl]⟩
                  obtain ⟨x, hx1, hx2⟩ := hx
                  refine ⟨(x : Int), hx1, ?_⟩
                  by_cases hlx : l.length + 1 = x
                  · rw [if_pos (by omega)]
                    have h4 : 4 ≤ x := by rw [hx2]; split <;> omega
                    match l, hlx, hlo, bad3, hkk, ehe, ein with
                    | [], hlx, _, _, _, _, _ => exact absurd hlx (by simp; omega)
                    | [_], hlx, _, _, _, _, _ => exact absurd hlx (by simp; omega)
                    | a :: b :: r, hlx, hlo, bad3, hkk, ehe, ein =>
                      have hlk : lookL ns (.str w :: a :: b :: r) = (decide (r.length + 3 = (if w = q "while" then 4 else 5)) && nameB ns a && markE b) := rfl
                      rw [decide_eq_true (by rw [← hx2, ← hlx]; simp), Bool.true_and] at hlk
                      have ha := hlo a (by simp)
                      have hb2 := hlo b (by simp)
                      rw [hlk] at bad3
                      cases a
                      case str z =>
                        have e2 : nameB ns (.str z) = decide (z ∈ ns) := rfl
                        rw [e2] at bad3 hlk
                        simp [-Bool.exists_bool, inC_strs, hb2]
                        by_cases hz : z ∈ ns
                        · rw [if_pos hz]
                          rw [decide_eq_true hz, Bool.true_and] at bad3 hlk
                          by_cases hm : markE b = true
                          · rw [if_pos hm]
                            refine hkk _ _ ⟨rfl, ?_, .inl ⟨hB, ?_⟩⟩
                            · rw [ein, if_pos hiw]
                              rfl
                            · rw [ehe, if_neg hc, hlk]
                              exact hm
                          · rw [if_neg hm]
                            exact bad3 (by rw [if_neg hm])
                        · rw [if_neg hz]
                          rw [decide_eq_false hz, Bool.false_and] at bad3
                          exact bad3 rfl
                      all_goals simp [stdB] at ha
                      all_goals simp [-Bool.exists_bool]
                      all_goals exact bad3 rfl
                  · rw [if_neg (by omega)]
                    refine bad3 ?_
                    have : ¬ lookL ns (.str w :: l) = true := fun hlk => by
                      obtain ⟨a, z, r, rfl, _, _, h5⟩ := lookL_inv hlk
                      exact hlx (by rw [hx2, ← h5]; simp)
                    rw [if_neg this]
                · have hB : hasBody w = false := by
                    rw [Bool.eq_false_iff]
                    intro z
                    rcases hasBody_iff.mp z with z | z | z
                    · exact hiw (.inl z)
                    · exact hiw (.inr z)
                    · exact hc z
                  rw [if_neg (by rw [hB]; exact Bool.false_ne_true)] at bad3
                  rw [if_neg fun z => hiw (z.imp Eq.symm Eq.symm)]
                  refine ⟨ns, rfl, hlo, ?_⟩
                  by_cases hsi : simpleL ns (.str w :: l) = true
                  · rw [if_pos hsi]
                    refine hkk _ _ ⟨rfl, ?_, .inr ⟨hB, hsi⟩⟩
                    rw [simple_inner hB]
                  · rw [if_neg hsi]
                    exact bad3 (by rw [if_neg hsi])
          all_goals have := bad2 rfl
          all_goals simp [stdB] at hw
          all_goals refine seq_stop fun kk => ?_
          all_goals simp [-Bool.exists_bool, gc_old hpn, -List.map_append]
          all_goals exact this _
      all_goals have := bad2 rfl
      all_goals simp [stdB] at hdd
      all_goals refine seq_stop fun kk => ?_
      all_goals simp [-Bool.exists_bool, gc_old hpn, -List.map_append]
      all_goals exact this _
  all_goals replace h := bad0 rfl
  all_goals simp [t_law_size, stdB, -Bool.exists_bool] at hb ⊢
  all_goals exact h
@[simp] def sp_law_is_program : SpD := fun ds M Q _ => match ds with
  | [d] => stdB d = true ∧ wt d < 900000 ∧ Q (.bl (progD d)) M
  | _ => False
theorem r_law_is_program (ds : List D) (M : Mm) (Φ : QD) (Ψ : XD) (h : sp_law_is_program ds M Φ Ψ) : t_law_is_program sp_law_are_readers (sp_law_size 8) (endD M Φ) (startD n_law_is_program ds) M := by
  unfold sp_law_is_program at h
  split at h
  case h_2 => exact h.elim
  rename_i d
  obtain ⟨hd, hwt, h⟩ := h
  cases d
  case tup l =>
    have hl := std_tup.mp hd
    match l, hl with
    | [], hl =>
      simp [t_law_is_program, -Bool.exists_bool]
      exact h
    | [a], hl =>
      simp [t_law_is_program, -Bool.exists_bool]
      exact h
    | a :: b :: c :: l, hl =>
      replace h : Φ (.bl false) M := h
      unfold t_law_is_program
      refine seq_stop fun kk => ?_
      simp [-Bool.exists_bool]
      rw [if_neg (by omega)]
      exact h
    | [r, b], hl =>
      have hr := hl r (by simp)
      have hb := hl b (by simp)
      replace h : Φ (.bl (progB r b)) M := h
      unfold progB at h
      by_cases h1 : readersD r = true
      · unfold t_law_is_program
        refine seq_skip ?_ fun kk hkk => by simpa [-Bool.exists_bool, hr, h1] using hkk
        rw [h1, Bool.true_and] at h
        obtain ⟨rs, rfl, hr1, hr2, hr3, hr4⟩ := readersD_inv h1
        rw [wt, wts, wts] at hwt
        simp [-Bool.exists_bool]
        intro p hp p2 hp2
        have hpp : p2 ≠ p := fun e => by rw [e, mu_same] at hp2; cases hp2
        refine lcD_of (fun _ => true) (fun d => .str (nameOf d)) _ _ _ trivial (fun d hd => ?_) ?_ ?_
        · obtain ⟨n1, m1, rfl, _⟩ := readerB_inv (hr3 d hd)
          refine ⟨_, rfl, fun K hK => hK, fun _ K hK => ?_⟩
          simpa [nameOf] using hK
        · rw [sizeLine_eq, List.length_nil]; omega
        · rw [List.filter_eq_self.mpr (fun _ _ => rfl), me_mu hp2]
          simp [hb]
          refine ⟨rs.map nameOf, by rw [List.map_map]; rfl, [], mu_same, by rw [List.length_nil]; omega, ?_⟩
          have e0 : rs.map nameOf = namesD (.tup rs) := rfl
          have egc : ∀ o, gc M (mu (mu M p (.lst [])) p o) = M := fun o => by rw [mu_mu, gc_new hp, gc_self]
          rw [e0]
          constructor
          · intro m hm
            rw [hm] at h
            replace h : Φ (.bl (decide (m ≤ 40) && decide (cntM (marksB 8 b) ≤ 3))) M := h
            have hv : vw (mu (mu M p (.lst [])) p (.lst ((marksB 8 b).map D.str))) (.ref p) = .lst ((marksB 8 b).map D.str) := vw_ref mu_same
            by_cases hm4 : m ≤ 40
            · rw [decide_eq_true hm4, Bool.true_and] at h
              have hle := marks_le _ _ _ hm
              simp [-Bool.exists_bool, -List.nil_append]
              rw [if_pos (by omega), hv]
              refine ⟨_, rfl, _, strsD_map _, by unfold scanBound; omega, fun us ho => ?_⟩
              rw [egc, cntM_of ho]
              have e : decide ((cntM (marksB 8 b) : Int) ≤ 3) = decide (cntM (marksB 8 b) ≤ 3) := by
                rw [decide_eq_decide]
                omega
              rw [e]
              exact h
            · rw [decide_eq_false hm4] at h
              simp [-Bool.exists_bool, -List.nil_append]
              rw [if_neg (by omega), egc]
              exact h
          · intro hm ms'
            rw [hm] at h
            simp [-Bool.exists_bool]
            have := egc (.lst (ms'.map .str))
            rw [mu_mu] at this
            rw [mu_mu, this]
            exact h
      · unfold t_law_is_program
        refine seq_stop fun kk => ?_
        rw [Bool.eq_false_iff.mpr h1, Bool.false_and] at h
        simpa [-Bool.exists_bool, hr, h1] using h
  all_goals simp [t_law_is_program, stdB, -Bool.exists_bool] at hd ⊢
  all_goals exact h
/-! ### told -/
@[simp] def sp_law_told : SpD := fun ds M Q _ => match ds with
  | [d] => stdB d = true ∧ wt d < 900000 ∧ Q (.bl true) M
  | _ => False
@[simp] def sp_law_stream_told : SpD := fun ds M Q _ => match ds with
  | [d] => stdB d = true ∧ Q (.bl true) M
  | _ => False
end K01

set_option Elab.async false
set_option linter.all false
set_option maxRecDepth 100000
set_option maxHeartbeats 1000000
namespace K01
open PySem L2 DL
/-! ### the deck -/
def deckO (a b c : Int) : MO := .lst [.int a, .int b, .int c]
/-- a deck that has counted to at most B -/
def DkO (B : Nat) (o : MO) : Prop := ∃ a b c : Int, o = deckO a b c ∧ 0 ≤ b ∧ b < 2147483579 ∧ 0 ≤ c ∧ c ≤ B
theorem DkO.mono {B C : Nat} {o : MO} (h : DkO B o) (hb : B ≤ C) : DkO C o := by
  obtain ⟨a, b, c, e, h1, h2, h3, h4⟩ := h
  exact ⟨a, b, c, e, h1, h2, h3, by omega⟩
@[simp] def sp_law_deck : SpD := fun ds M Q _ => match ds with
  | [.int _, .int t] => 0 ≤ t ∧ t ≤ 1000 ∧ ∀ p o, M p = none → DkO 1000 o → Q (.ref p) (mu M p o)
  | _ => False
theorem r_law_deck (ds : List D) (M : Mm) (Φ : QD) (Ψ : XD) (h : sp_law_deck ds M Φ Ψ) : t_law_deck (endD M Φ) (startD n_law_deck ds) M := by
  unfold sp_law_deck at h
  split at h
  case h_2 => exact h.elim
  rename_i x t
  obtain ⟨ht1, ht2, h⟩ := h
  have hm : 0 ≤ x % 2147483579 ∧ x % 2147483579 < 2147483579 := ⟨Int.emod_nonneg _ (by decide), Int.emod_lt_of_pos _ (by decide)⟩
  have hp : CPow 10 18 := ⟨by decide, by decide, by decide⟩
  simp [t_law_deck, -Bool.exists_bool, hp]
  split
  · refine ⟨by decide, fun p hp => ?_⟩
    rw [gcR_new hp]
    exact h p _ hp ⟨_, _, _, rfl, hm.1, hm.2, ht1, by omega⟩
  · refine ⟨by decide, fun p hp => ?_⟩
    rw [gcR_new hp]
    exact h p _ hp ⟨_, _, _, rfl, hm.1, hm.2, ht1, by omega⟩
@[simp] def sp_law_pick : SpD := fun ds M Q _ => match ds with
  | [.ref p, .int n] => ∃ B o, 0 < n ∧ n < 1073741824 ∧ M p = some o ∧ DkO B o ∧ B < 2147483648 ∧ ∀ r o', 0 ≤ r → r < n → DkO (B + 1) o' → Q (.int r) (mu M p o')
  | _ => False
theorem r_law_pick (ds : List D) (M : Mm) (Φ : QD) (Ψ : XD) (h : sp_law_pick ds M Φ Ψ) : t_law_pick (endD M Φ) (startD n_law_pick ds) M := by
  unfold sp_law_pick at h
  split at h
  case h_2 => exact h.elim
  rename_i p n
  obtain ⟨B, o, hn, hn2, hp, ⟨a, b, c, rfl, h1, h2, h3, h4⟩, hB, h⟩ := h
  have hpn : M p ≠ none := by rw [hp]; simp
  have hv : vw M (.ref p) = .lst [.int a, .int b, .int c] := vw_ref hp
  have hm0 : M p = some (.lst [.int a, .int b, .int c]) := hp
  have hdiv : CDiv a n := ⟨hn, hn2⟩
  have egc : ∀ o, gc M (mu M p o) = mu M p o := fun o => by rw [gc_old hpn, gc_self]
  have hvm : ∀ x y z : D, vw (mu M p (.lst [x, y, z])) (.ref p) = .lst [x, y, z] := fun x y z => vw_ref mu_same
  unfold t_law_pick
  by_cases ha : 1 < a
  · refine seq_stop fun kk => ?_
    simp [-Bool.exists_bool, hv, ha, hn, hdiv, hm0, ixN, egc]
    exact h _ _ (Int.emod_nonneg _ (by omega)) (Int.emod_lt_of_pos _ hn) ⟨a / n, b, c, rfl, h1, h2, h3, by omega⟩
  · refine seq_skip ?_ fun kk hkk => by simpa [-Bool.exists_bool, hv, ha] using hkk
    refine seq_to [some (.ref p), some (.int n), none, none] (mu M p (.lst [.int a, .int b, .int (c + 1)])) ?_ fun kk hkk => ?_
    · have b1 : CPow (b + 15485867 * (c + 1)) 5 := ⟨by decide, by decide, by omega⟩
      have b2 : CMul 15485867 (c + 1) := .inl ⟨by decide, by decide⟩
      have b3 : CMul 7919 (c + 1) := .inl ⟨by decide, by decide⟩
      have hm1 : 0 ≤ (b + 15485867 * (c + 1)) ^ 5 % 2147483647 ∧ (b + 15485867 * (c + 1)) ^ 5 % 2147483647 < 2147483647 := ⟨Int.emod_nonneg _ (by decide), Int.emod_lt_of_pos _ (by decide)⟩
      have b4 : CPow ((b + 15485867 * (c + 1)) ^ 5 % 2147483647 + 7919 * (c + 1)) 3 := ⟨by decide, by decide, by omega⟩
      have b5 : ∀ i, CDiv i 32 := fun i => ⟨by decide, by decide⟩
      simp [-Bool.exists_bool, hvm, b1, b2, b3, b4, b5, hn, egc]
      exact h _ _ (Int.emod_nonneg _ (by omega)) (Int.emod_lt_of_pos _ hn) ⟨a, b, c + 1, rfl, h1, h2, by omega, by omega⟩
    · simp [-Bool.exists_bool, hv, hm0, ixN]
      exact hkk
@[simp] def sp_law_one : SpD := fun ds M Q _ => match ds with
  | [.ref p, .lst xs] => ∃ B o, xs ≠ [] ∧ xs.length < 1073741824 ∧ M p = some o ∧ DkO B o ∧ B < 2147483648 ∧ ∀ x o', x ∈ xs → DkO (B + 1) o' → Q x (mu M p o')
  | _ => False
theorem r_law_one (ds : List D) (M : Mm) (Φ : QD) (Ψ : XD) (h : sp_law_one ds M Φ Ψ) : t_law_one sp_law_pick (endD M Φ) (startD n_law_one ds) M := by
  unfold sp_law_one at h
  split at h
  case h_2 => exact h.elim
  rename_i p xs
  obtain ⟨B, o, hx, hxl, hp, hd, hB, h⟩ := h
  have hpn : M p ≠ none := by rw [hp]; simp
  have egc : ∀ o, gc M (mu M p o) = mu M p o := fun o => by rw [gc_old hpn, gc_self]
  have hpos := List.length_pos_iff.mpr hx
  simp [t_law_one, -Bool.exists_bool]
  refine ⟨hpos, by omega, B, o, hp, hd, hB, fun r o' h0 h1 hd' => ?_⟩
  have e : r = ((r.toNat : Nat) : Int) := by omega
  have hl : r.toNat < xs.length := by omega
  rw [e, DL.atI_nat, List.getElem?_eq_getElem hl]
  refine ⟨_, rfl, ?_⟩
  have hg : ∀ d, gcR M (mu M p o') d = mu M p o' := fun d => by
    cases d with
    | ref q =>
      rw [gcR_ref, egc]
      funext a
      split <;> rfl
    | _ => exact egc o'
  rw [hg]
  exact h _ _ (List.getElem_mem hl) hd'
/-! ### readers by chance -/
theorem readers_std {d : D} (h : readersD d = true) : stdB d = true ∧ wt d ≤ 13 := by
  obtain ⟨rs, rfl, h1, h2, h3, _⟩ := readersD_inv h
  constructor
  · rw [std_tup]
    intro d hd
    obtain ⟨n, m, rfl, _⟩ := readerB_inv (h3 d hd)
    rfl
  · have : ∀ rs : List D, (∀ r ∈ rs, readerB r = true) → wts rs = 3 * rs.length := by
      intro rs
      induction rs with
      | nil => intro _; rfl
      | cons r rs ih =>
        intro h
        obtain ⟨n, m, rfl, _⟩ := readerB_inv (h r List.mem_cons_self)
        rw [wts, ih fun x hx => h x (List.mem_cons_of_mem _ hx), List.length_cons]
        simp [wt, wts]
        omega
    rw [wt, this rs h3]
    omega
def five : List (List Nat) := [q "a", q "b", q "head", q "rest", q "zz"]
theorem five_ok : ∀ i < 3, ∀ j < 3, (decide (1 ≤ ((five.drop i).take (1 + j)).length) && decide (((five.drop i).take (1 + j)).length ≤ 3) && ((five.drop i).take (1 + j)).all labelS && (((five.drop i).take (1 + j)).zip (((five.drop i).take (1 + j)).drop 1)).all fun p => ltS p.1 p.2) = true := by decide +kernel
theorem mu_comm {M : Mm} {p q : Addr} {o u : MO} (h : p ≠ q) : mu (mu M p o) q u = mu (mu M q u) p o := by
  funext a
  unfold mu
  by_cases h1 : a = p
  · by_cases h2 : a = q
    · exact absurd (h1.symm.trans h2) h
    · simp [h1, h]
  · simp [h1]
/-- names taken from the five, in their order, with any modes -/
theorem readers_of (ns : List (List Nat)) (ms : List (List Nat)) (hl : ns.length = ms.length) (h1 : 1 ≤ ns.length) (h2 : ns.length ≤ 4) (hn : ∀ n ∈ ns, labelS n = true) (ha : ((ns.zip (ns.drop 1)).all fun p => ltS p.1 p.2) = true) (hm : ∀ m ∈ ms, m = q "ahead" ∨ m = q "one") :
    readersL ((ns.zip ms).map fun p => .tup [.str p.1, .str p.2]) = true := by
  unfold readersL
  have hz : (ns.zip ms).length = ns.length := by rw [List.length_zip]; omega
  rw [List.length_map, hz, decide_eq_true h1, decide_eq_true h2, Bool.true_and, Bool.true_and, Bool.and_eq_true]
  constructor
  · rw [List.all_eq_true]
    intro d hd
    obtain ⟨⟨n, m⟩, hnm, rfl⟩ := List.mem_map.mp hd
    obtain ⟨h3, h4⟩ := List.of_mem_zip hnm
    show (labelS n && (m == q "ahead" || m == q "one")) = true
    rw [hn n h3, Bool.true_and, Bool.or_eq_true, beq_iff_eq, beq_iff_eq]
    exact hm m h4
  · unfold ascB
    rw [List.all_eq_true]
    intro p hp
    obtain ⟨i, hi, e⟩ := List.mem_iff_getElem.mp hp
    rw [List.length_zip, List.length_drop, List.length_map, hz] at hi
    rw [List.getElem_zip, List.getElem_drop, List.getElem_map, List.getElem_map, List.getElem_zip, List.getElem_zip] at e
    rw [← e]
    show ltS ns[i] ns[1 + i] = true
    have := List.all_eq_true.mp ha (ns[i], ns[1 + i]) (List.mem_iff_getElem.mpr ⟨i, by rw [List.length_zip, List.length_drop]; omega, by rw [List.getElem_zip, List.getElem_drop]⟩)
    exact this
@[simp] def sp_law_readers : SpD := fun ds M Q _ => match ds with
  | [.ref p] => ∃ B o, M p = some o ∧ DkO B o ∧ B + 6 < 2147483648 ∧ ∀ rs o', readersD rs = true → DkO (B + 6) o' → Q rs (mu M p o')
  | _ => False
theorem r_law_readers (ds : List D) (M : Mm) (Φ : QD) (Ψ : XD) (h : sp_law_readers ds M Φ Ψ) : t_law_readers sp_law_pick sp_law_one (endD M Φ) (startD n_law_readers ds) M := by
  unfold sp_law_readers at h
  split at h
  case h_2 => exact h.elim
  rename_i p
  obtain ⟨B, o, hp, hd, hB, h⟩ := h
  have hpn : M p ≠ none := by rw [hp]; simp
  have egc : ∀ o, gc M (mu M p o) = mu M p o := fun o => by rw [gc_old hpn, gc_self]
  simp [t_law_readers, -Bool.exists_bool]
  refine ⟨by decide, B, o, hp, hd, by omega, fun r o1 hr0 hr1 hd1 => ⟨B + 1, o1, mu_same, hd1, by omega, fun s o2 hs0 hs1 hd2 p1 hp1 => ?_⟩⟩
  rw [mu_mu] at hp1 ⊢
  have hpp : p1 ≠ p := fun e => by rw [e, mu_same] at hp1; cases hp1
  have hok := five_ok r.toNat (by omega) s.toNat (by omega)
  simp only [Bool.and_eq_true, decide_eq_true_iff] at hok
  obtain ⟨⟨⟨k1, k2⟩, k3⟩, k4⟩ := hok
  generalize hns : (five.drop r.toNat).take (1 + s.toNat) = ns at k1 k2 k3 k4
  have hcut : cutD (cutD [D.str (q "a"), .str (q "b"), .str (q "head"), .str (q "rest"), .str (q "zz")] (some r) none) none (some (1 + s)) = ns.map D.str := by
    have e1 : [D.str (q "a"), .str (q "b"), .str (q "head"), .str (q "rest"), .str (q "zz")] = five.map D.str := rfl
    have e2 : r = (r.toNat : Int) := by omega
    have e3 : 1 + s = ((1 + s.toNat : Nat) : Int) := by omega
    rw [e1, e2, e3, cutD_from, cutD_to, ← List.map_drop, ← List.map_take, hns]
  rw [hcut]
  generalize hsl : [some (D.ref p), some (.lst (ns.map D.str)), none] = σ0
  refine lcD_inv (fun rest acc M' => ∃ (pre ns' ms : List (List Nat)) (o' : MO), ns = pre ++ ns' ∧ rest = ns'.map D.str ∧ pre.length = ms.length ∧ acc = (pre.zip ms).map (fun p => D.tup [.str p.1, .str p.2]) ∧ (∀ m ∈ ms, m = q "ahead" ∨ m = q "one") ∧ M' = mu (mu M p o') p1 .hid ∧ DkO (B + 2 + pre.length) o') _ _ _ _ ⟨[], ns, [], o2, rfl, rfl, rfl, rfl, fun _ h => (by cases h), rfl, hd2⟩ ?_ ?_
  · rintro acc M' ⟨pre, ns', ms, o', e1, e2, e3, rfl, e4, rfl, hd'⟩
    have e5 : ns' = [] := by cases ns' with | nil => rfl | cons _ _ => cases e2
    subst e5
    rw [List.append_nil] at e1
    subst e1
    have hf : (mu M p o') p1 = none := by rw [mu_ne hpp]; rw [mu_ne hpp] at hp1; exact hp1
    refine ⟨trivial, ?_⟩
    rw [me_mu hf, egc]
    exact h _ _ (readers_of _ _ e3 k1 (by omega) (List.all_eq_true.mp k3) k4 e4) (hd'.mono (by omega))
  · rintro d rest acc M' ⟨pre, ns', ms, o', e1, e2, e3, rfl, e4, rfl, hd'⟩
    cases ns' with
    | nil => cases e2
    | cons n ns' =>
      cases e2
      have hlen : pre.length + 1 + ns'.length = ns.length := by rw [e1]; simp; omega
      have hpv : (mu (mu M p o') p1 .hid) p = some o' := by rw [mu_ne (Ne.symm hpp), mu_same]
      refine ⟨trivial, ?_, [some (.ref p), some (.lst (ns.map D.str)), some (.str n)], by rw [← hsl]; rfl, fun K hK => ?_⟩
      · rw [List.length_map, List.length_zip, sizeLine_eq]
        omega
      · simp [-Bool.exists_bool]
        refine ⟨by decide, B + 2 + pre.length, o', hpv, hd', by omega, fun x o'' hx hd'' => ⟨by decide, ?_⟩⟩
        obtain ⟨m, rfl, hm⟩ : ∃ m, x = .str m ∧ (m = q "ahead" ∨ m = q "one") := by
          rcases hx with rfl | rfl
          · exact ⟨_, rfl, .inl rfl⟩
          · exact ⟨_, rfl, .inr rfl⟩
        refine hK _ _ ⟨pre ++ [n], ns', ms ++ [m], o'', by rw [e1]; simp, rfl, by simp [e3], ?_, ?_, ?_, ?_⟩
        · rw [List.zip_append e3, List.map_append]
          rfl
        · intro m' hm'
          rcases List.mem_append.mp hm' with z | z
          · exact e4 m' z
          · rw [List.mem_singleton.mp z]
            exact hm
        · rw [mu_comm hpp, mu_mu]
        · rw [List.length_append, List.length_singleton]
          exact hd''
/-! ### odd values -/
def oddsA : List D := [.non, .bl true, .bl false, .int 0, .int 1, .int 3, .int 4, .int (-1), .int 1000000000000000000000000000000, .str (q ""), .str (q "n"), .str (q "a"), .str (q "b"), .str (q "zz"), .str (q "A"), .str (q "abcdefgh"), .str (q "abcdefghi"), .str (q "ahead")]
def oddsB : List D := [.str (q "one"), .str (q "take"), .str (q "until"), .str (q "if"), .str (q "while"), .str (q "call"), .str (q "back"), .str (q "give"), .str (q "n "), .tup [], .lst [], .tup [.str (q "a"), .str (q "one")]]
def oddsC : List D := [.tup [.str (q "call"), .tup []]]
def oddsD : List D := [.tup [.str (q "take"), .str (q "a"), .int 1], .tup [.str (q "until"), .str (q "a"), .str (q "q")], .tup [.str (q "back"), .str (q "a")], .tup [.tup [.str (q "a"), .str (q "one")]]]
def oddsABC : List D := oddsA ++ oddsB ++ oddsC
def odds : List D := oddsABC ++ oddsD
@[simp] def sp_law_odd : SpD := fun ds M Q _ => match ds with
  | [.ref p] => ∃ B o, M p = some o ∧ DkO B o ∧ B < 2147483648 ∧ ∀ x o', x ∈ odds → DkO (B + 1) o' → Q x (mu M p o')
  | _ => False
theorem r_law_odd (ds : List D) (M : Mm) (Φ : QD) (Ψ : XD) (h : sp_law_odd ds M Φ Ψ) : t_law_odd sp_law_one (endD M Φ) (startD n_law_odd ds) M := by
  unfold sp_law_odd at h
  split at h
  case h_2 => exact h.elim
  rename_i p
  obtain ⟨B, o, hp, hd, hB, h⟩ := h
  have hpn : M p ≠ none := by rw [hp]; simp
  have egc : ∀ o, gc M (mu M p o) = mu M p o := fun o => by rw [gc_old hpn, gc_self]
  unfold t_law_odd
  refine seq_cut (fun σ M' => ∃ q, M q = none ∧ σ = [some (.ref p), some (.ref q)] ∧ M' = mu M q (.lst oddsA)) ?_ fun k hk => ?_
  · rintro σ M' ⟨q1, hq1, rfl, rfl⟩
    have hpq : p ≠ q1 := fun e => by rw [e, hq1] at hp; cases hp
    refine seq_cut (fun σ M' => ∃ q, (mu M q1 (.lst oddsA)) q = none ∧ σ = [some (.ref p), some (.ref q)] ∧ M' = mu (mu M q1 (.lst oddsA)) q (.lst (oddsA ++ oddsB))) ?_ fun k hk => ?_
    · rintro σ M' ⟨q2, hq2, rfl, rfl⟩
      have hq21 : q2 ≠ q1 := fun e => by rw [e, mu_same] at hq2; cases hq2
      have hq2n : M q2 = none := by rw [mu_ne hq21] at hq2; exact hq2
      have hpq2 : p ≠ q2 := fun e => by rw [e, hq2n] at hp; cases hp
      refine seq_to [some (.ref p), some (.ref q2)] (mu (mu M q1 (.lst oddsA)) q2 (.lst oddsABC)) ?_ fun k hk => ?_
      · have hv : vw (mu (mu M q1 (.lst oddsA)) q2 (.lst oddsABC)) (.ref q2) = .lst oddsABC := vw_ref mu_same
        have hpm : (mu (mu M q1 (.lst oddsA)) q2 (.lst oddsABC)) p = some o := by rw [mu_ne hpq2, mu_ne hpq]; exact hp
        have hl : oddsABC.length = 31 := by decide
        simp [-Bool.exists_bool, hv]
        refine ⟨by decide, by decide, by decide, by decide, by rw [hl]; decide, by rw [hl]; decide, B, o, hpm, hd, hB, fun x o' hx hd' => ?_⟩
        have e1 : gc M (mu (mu (mu M q1 (.lst oddsA)) q2 (.lst oddsABC)) p o') = mu M p o' := by rw [gc_old hpn, gc_new hq2n, gc_new hq1, gc_self]
        have hxo : x ∈ odds := by
          show x ∈ oddsABC ++ oddsD
          rw [List.mem_append]
          refine hx.imp id fun z => ?_
          unfold oddsD
          simpa using z
        have e2 : gcR M (mu (mu (mu M q1 (.lst oddsA)) q2 (.lst oddsABC)) p o') x = mu M p o' := by
          have hs : stdB x = true := by
            have : odds.all stdB = true := by decide +kernel
            exact List.all_eq_true.mp this x hxo
          cases x <;> first | exact e1 | (simp [stdB] at hs)
        rw [e2]
        exact h x o' hxo hd'
      · simp [-Bool.exists_bool, -List.cons_append]
        refine ⟨by decide, oddsA ++ oddsB, mu_same, by decide, ?_⟩
        rw [mu_mu]
        exact hk
    · have hv : vw (mu M q1 (.lst oddsA)) (.ref q1) = .lst oddsA := vw_ref mu_same
      simp [-Bool.exists_bool, hv]
      refine ⟨by decide, by decide, by decide, fun q2 hq2 => hk _ _ ⟨q2, hq2, rfl, rfl⟩⟩
  · simp [-Bool.exists_bool]
    refine ⟨⟨by decide, by decide, by decide⟩, by decide, fun q1 hq1 => hk _ _ ⟨q1, hq1, rfl, rfl⟩⟩
theorem odds_std {x : D} (h : x ∈ odds) : stdB x = true := List.all_eq_true.mp (show odds.all stdB = true by decide +kernel) x h
end K01

set_option Elab.async false
set_option linter.all false
set_option maxRecDepth 100000
set_option maxHeartbeats 1000000
namespace K01
open PySem L2 DL
/-! ### how deep a value is -/
mutual
def dep : D → Nat
  | .tup ds => 1 + deps ds
  | .lst ds => 1 + deps ds
  | .non => 0
  | .bl _ => 0
  | .int _ => 0
  | .str _ => 0
  | .ref _ => 0
  | .ty _ => 0
def deps : List D → Nat
  | [] => 0
  | d :: ds => max (dep d) (deps ds)
end
theorem deps_le {ds : List D} {n : Nat} : deps ds ≤ n ↔ ∀ d ∈ ds, dep d ≤ n := by
  induction ds with
  | nil => simp [deps]
  | cons d ds ih => rw [deps, Nat.max_le, ih]; simp
theorem wts_mem {ds : List D} {d : D} (h : d ∈ ds) : wt d ≤ wts ds := by
  induction ds with
  | nil => cases h
  | cons x ds ih =>
    rw [wts]
    rcases List.mem_cons.mp h with e | e
    · subst e; omega
    · have := ih e; omega
theorem wts_take : ∀ (l : List D) (n : Nat), wts (l.take n) ≤ wts l
  | _, 0 => by simp [wts]
  | [], n + 1 => by simp [wts]
  | x :: l, n + 1 => by rw [List.take_succ_cons, wts, wts]; have := wts_take l n; omega
theorem wts_len : ∀ (l : List D), l.length ≤ wts l
  | [] => Nat.le_refl _
  | x :: l => by rw [List.length_cons, wts]; have := wts_len l; have := wt_pos x; omega
theorem wts_split (l : List D) (n : Nat) : wts (l.take n) + wts (l.drop n) = wts l := by rw [← wts_app, List.take_append_drop]
/-- plain, at most so deep, at most so much -/
def Ok (n m : Nat) (d : D) : Prop := stdB d = true ∧ dep d ≤ n ∧ wt d ≤ m
theorem odds_ok {x : D} (h : x ∈ odds) : Ok 2 5 x := by
  have := List.all_eq_true.mp (show odds.all (fun x => stdB x && decide (dep x ≤ 2) && decide (wt x ≤ 5)) = true by decide +kernel) x h
  simp only [Bool.and_eq_true, decide_eq_true_iff] at this
  exact ⟨this.1.1, this.1.2, this.2⟩
theorem ok_tup {n m : Nat} {ds : List D} (h1 : ∀ d ∈ ds, stdB d = true) (h2 : ∀ d ∈ ds, dep d ≤ n) (h3 : wts ds + 1 ≤ m) : Ok (n + 1) m (.tup ds) :=
  ⟨std_tup.mpr h1, by rw [dep]; have := deps_le.mpr h2; omega, by rw [wt]; omega⟩
/-- bending a value: deck at p with room; the value is at most n deep -/
@[simp] def sp_law_bent (n : Nat) : SpD := fun ds M Q _ => match ds with
  | [.ref p, v] => ∃ B m o, M p = some o ∧ DkO B o ∧ B + 10 * n + 10 < 2147483648 ∧ Ok n m v ∧ m < 200000 ∧ ∀ x o', Ok (n + 3) (2 * m + 5) x → DkO (B + 10 * n + 10) o' → Q x (mu M p o')
  | _ => False
theorem gcR_std {M M' : Mm} {x : D} (h : stdB x = true) : gcR M M' x = gc M M' := by
  cases x <;> first | rfl | (simp [stdB] at h)
theorem cut_nat {α : Type} (xs : List α) (a : Nat) : cutD xs (some ((a : Int) + 1)) none = xs.drop (a + 1) := by
  have : (a : Int) + 1 = ((a + 1 : Nat) : Int) := by omega
  rw [this, cutD_from]
theorem cut_nat2 {α : Type} (xs : List α) (a : Nat) : cutD xs none (some ((a : Int) + 1)) = xs.take (a + 1) := by
  have : (a : Int) + 1 = ((a + 1 : Nat) : Int) := by omega
  rw [this, cutD_to]
end K01

set_option Elab.async false
set_option linter.all false
set_option maxRecDepth 100000
set_option maxHeartbeats 1000000
namespace K01
open PySem L2 DL
/-! ### the law's rows -/
@[simp] def sp_law_inner : SpD := sp_inner
theorem r_law_inner (ds : List D) (M : Mm) (Φ : QD) (Ψ : XD) (h : sp_law_inner ds M Φ Ψ) : t_law_inner (endD M Φ) (startD n_law_inner ds) M := by
  unfold sp_law_inner sp_inner at h
  split at h
  case h_2 => exact h.elim
  rename_i w l
  simp [t_law_inner, -Bool.exists_bool]
  refine ⟨by decide, ?_⟩
  replace h : Φ (.tup (if w = q "if" ∨ w = q "while" then (D.str w :: l).drop 3 else if w = q "call" then l else [])) M := h
  by_cases h1 : w = q "if" ∨ w = q "while"
  · rw [if_pos (h1.imp Eq.symm Eq.symm)]
    rw [if_pos h1] at h
    exact h
  · rw [if_neg fun z => h1 (z.imp Eq.symm Eq.symm)]
    rw [if_neg h1] at h
    by_cases h2 : w = q "call"
    · rw [if_pos h2] at h ⊢
      exact h
    · rw [if_neg h2] at h ⊢
      exact h
/-- rows that stand for a body -/
inductive All2 {α β : Type} (R : α → β → Prop) : List α → List β → Prop
  | nil : All2 R [] []
  | cons {a b as bs} : R a b → All2 R as bs → All2 R (a :: as) (b :: bs)
theorem All2.snoc {α β : Type} {R : α → β → Prop} {as : List α} {bs : List β} {a : α} {b : β} (h : All2 R as bs) (r : R a b) : All2 R (as ++ [a]) (bs ++ [b]) := by
  induction h with
  | nil => exact .cons r .nil
  | cons x _ ih => exact .cons x ih
theorem All2.len {α β : Type} {R : α → β → Prop} {as : List α} {bs : List β} (h : All2 R as bs) : as.length = bs.length := by
  induction h with
  | nil => rfl
  | cons _ _ ih => simp [ih]
def RowOf (R : D → D → Prop) (it row : D) : Prop := ∃ w l num rs, it = .tup (.str w :: l) ∧ row = .tup [.str w, .int num, .tup ((D.str w :: l).take ((D.str w :: l).length - (innerL (.str w :: l)).length)), .lst rs] ∧ All2 R (innerL (.str w :: l)) rs
def RowsOf : Nat → D → D → Prop
  | 0, _, _ => False
  | n + 1, b, rows => ∃ items rs, b = .tup items ∧ rows = .lst rs ∧ All2 (RowOf (RowsOf n)) items rs
@[simp] def sp_law_rows (n : Nat) : SpD := fun ds M Q _ => match ds with
  | [b, .ref p] => ∃ ns m k, sizeB ns n b = some m ∧ m ≤ 1000 ∧ M p = some (.lst [.int k]) ∧ ∀ rows k', RowsOf n b rows → Q rows (mu M p (.lst [.int k']))
  | _ => False
theorem rows_lst {n : Nat} {b rows : D} (h : RowsOf n b rows) : ∃ rs, rows = .lst rs := by
  cases n with
  | zero => exact h.elim
  | succ n => obtain ⟨_, rs, _, e, _⟩ := h; exact ⟨rs, e⟩
/-! ### the steps of rows -/
@[simp] def sp_law_steps (n : Nat) : SpD := fun ds M Q _ => match ds with
  | [rows] => ∃ ns m b, sizeB ns n b = some m ∧ m ≤ 1000 ∧ RowsOf n b rows ∧ Q (.lst (stepsB n b)) M
  | _ => False
theorem gc_none_of {M M' : Mm} {q : Addr} (h : gc M M' = M) (hq : M' q = none) : M q = none := by
  have := congrFun h q
  unfold gc at this
  cases e : M q with
  | none => rfl
  | some u => rw [e] at this; dsimp only at this; rw [hq] at this; cases this
/-- a list of one's own that stands open -/
def Own (M M' : Mm) (q : Addr) (xs : List D) : Prop := gc M M' = M ∧ M q = none ∧ M' q = some (.lst xs)
theorem Own.put {M M' : Mm} {q : Addr} {xs ys : List D} (h : Own M M' q xs) : Own M (mu M' q (.lst ys)) q ys := ⟨by rw [gc_new h.2.1, h.1], h.2.1, mu_same⟩
theorem Own.new {M M' : Mm} {q q2 : Addr} {xs ys : List D} (h : Own M M' q xs) (h2 : M' q2 = none) : Own M (mu M' q2 (.lst ys)) q2 ys :=
  have hn := gc_none_of h.1 h2
  ⟨by rw [gc_new hn, h.1], hn, mu_same⟩
theorem steps_rows {n : Nat} {ns : List (List Nat)} {x0 x2 x3 x4 x5 x6 : Option D} {parts rs : List D} {M M0 : Mm} {q0 : Addr} {xs : List D} {nx b' c' : Sg → Mm → Prop} {rt : QD} {m : Nat} (hs : sumO (parts.map (sizeB ns n)) = some m) (hm : m ≤ 1000) (hr : All2 (RowsOf n) parts rs) (ho : Own M M0 q0 xs)
    (hl : (xs ++ (parts.map (stepsB n)).flatten).length ≤ 1000)
    (k : ∀ y M' q, Own M M' q (xs ++ (parts.map (stepsB n)).flatten) → nx [x0, some (.ref q), x2, x3, x4, x5, y] M') :
    forD (.one 6) (tdSet 1 (tdAddM (tdVar 1) (tdCall (sp_law_steps n) (tdCons (tdVar 6) tdNil)))) Sta rs ⟨nx, rt, b', c'⟩ [x0, some (.ref q0), x2, x3, x4, x5, x6] M0 := by
  refine forD_inv (fun rest σ M' => ∃ (pre post : List D) (q : Addr) (y : Option D), parts = pre ++ post ∧ All2 (RowsOf n) post rest ∧ σ = [x0, some (.ref q), x2, x3, x4, x5, y] ∧ Own M M' q (xs ++ (pre.map (stepsB n)).flatten)) ?_ ?_ _ _ _ ⟨[], parts, q0, x6, rfl, hr, rfl, by simpa using ho⟩
  · rintro σ M' ⟨pre, post, q, y, hp, h2, rfl, ho'⟩
    cases h2
    rw [List.append_nil] at hp
    subst hp
    exact ⟨trivial, k y M' q ho'⟩
  · rintro d rest σ M' ⟨pre, post, q, y, hp, h2, rfl, ho'⟩
    cases h2 with
    | @cons a _ as _ h3 h4 =>
      refine ⟨trivial, _, rfl, fun κ hk => ?_⟩
      obtain ⟨a2, ha, hle⟩ := sumO_inv hs a (by rw [hp]; simp)
      have e : (parts.map (stepsB n)).flatten = (pre.map (stepsB n)).flatten ++ (stepsB n a ++ (as.map (stepsB n)).flatten) := by rw [hp]; simp
      rw [e, List.length_append, List.length_append, List.length_append] at hl
      have hv : vw M' (.ref q) = .lst (xs ++ (pre.map (stepsB n)).flatten) := vw_ref ho'.2.2
      simp [-Bool.exists_bool, hv, -List.length_flatten]
      refine ⟨ns, a2, a, ha, by omega, h3, by rw [sizeLine_eq]; omega, fun q2 hq2 => ?_⟩
      refine hk _ _ ⟨pre ++ [a], as, q2, some d, by rw [hp]; simp, h4, rfl, ?_⟩
      have := ho'.new hq2 (ys := xs ++ ((pre ++ [a]).map (stepsB n)).flatten)
      simpa using this
end K01

set_option Elab.async false
set_option linter.all false
set_option maxRecDepth 100000
set_option maxHeartbeats 1000000
namespace K01
open PySem L2 DL
/-! ### fuel -/
theorem sumO_mono {f g : D → Option Nat} (h : ∀ d m, f d = some m → g d = some m) : ∀ {l : List D} {m : Nat}, sumO (l.map f) = some m → sumO (l.map g) = some m
  | [], m, e => e
  | x :: l, m, e => by
    rw [List.map_cons] at e ⊢
    cases e1 : f x with
    | none => rw [e1] at e; cases e
    | some a =>
      rw [e1] at e
      rw [h x a e1]
      have e : (sumO (l.map f)).map (a + ·) = some m := e
      show (sumO (l.map g)).map (a + ·) = some m
      cases e2 : sumO (l.map f) with
      | none => rw [e2] at e; cases e
      | some c => rw [e2] at e; rw [sumO_mono h e2]; exact e
theorem sizeI_mono {ns : List (List Nat)} {s t : D → Option Nat} (h : ∀ d m, s d = some m → t d = some m) {it : D} {m : Nat} (e : sizeI ns s it = some m) : sizeI ns t it = some m := by
  obtain ⟨w, l, rfl, h3⟩ := sizeI_inv e
  have esi : sizeI ns t (.tup (.str w :: l)) = (if hasBody w = true then (if headL ns (.str w :: l) = true then (sumO ((innerL (.str w :: l)).map t)).map (1 + ·) else none) else if simpleL ns (.str w :: l) = true then some 1 else none) := rfl
  rw [esi]
  rcases h3 with ⟨h1, h2, m', h4, rfl⟩ | ⟨h1, h2, rfl⟩
  · rw [if_pos h1, if_pos h2, sumO_mono h h4]
    rfl
  · rw [if_neg (by rw [h1]; exact Bool.false_ne_true), if_pos h2]
theorem sizeB_mono {ns : List (List Nat)} : ∀ {n : Nat} {b : D} {m : Nat}, sizeB ns n b = some m → sizeB ns (n + 1) b = some m
  | 0, b, m, h => by cases h
  | n + 1, b, m, h => by
    cases b with
    | tup ds =>
      have h : sumO (ds.map (sizeI ns (sizeB ns n))) = some m := h
      exact sumO_mono (fun d a e => sizeI_mono (fun d' a' e' => sizeB_mono e') e) h
    | _ => cases h
theorem sizeB_up {ns : List (List Nat)} {n k : Nat} {b : D} {m : Nat} (h : sizeB ns n b = some m) (hk : n ≤ k) : sizeB ns k b = some m := by
  induction k with
  | zero => have : n = 0 := by omega
            subst this; exact h
  | succ k ih =>
    by_cases e : n = k + 1
    · subst e; exact h
    · exact sizeB_mono (ih (by omega))
/-- all marks of a valid body are one of two -/
def MkOk (ts : List (List Nat)) : Prop := ∀ x ∈ ts, x = q "n" ∨ x = q "e"
theorem marksB_mono {ns : List (List Nat)} : ∀ {n : Nat} {b : D} {m : Nat}, sizeB ns n b = some m → marksB (n + 1) b = marksB n b
  | 0, b, m, h => by cases h
  | n + 1, b, m, h => by
    cases b with
    | tup ds =>
      have h : sumO (ds.map (sizeI ns (sizeB ns n))) = some m := h
      show (ds.map (marksI (marksB (n + 1)))).flatten = (ds.map (marksI (marksB n))).flatten
      congr 1
      refine List.map_congr_left fun d hd => ?_
      obtain ⟨a, ha, _⟩ := sumO_inv h d hd
      obtain ⟨w, l, rfl, h3⟩ := sizeI_inv ha
      show ownM _ ++ _ = ownM _ ++ _
      congr 2
      refine List.map_congr_left fun d' hd' => ?_
      rcases h3 with ⟨_, _, m', h4, _⟩ | ⟨h1, _⟩
      · obtain ⟨a', ha', _⟩ := sumO_inv h4 d' hd'
        exact marksB_mono ha'
      · rw [simple_inner h1] at hd'
        cases hd'
    | _ => cases h
theorem marksB_up {ns : List (List Nat)} {n k : Nat} {b : D} {m : Nat} (h : sizeB ns n b = some m) (hk : n ≤ k) : marksB k b = marksB n b := by
  induction k with
  | zero => have : n = 0 := by omega
            subst this; rfl
  | succ k ih =>
    by_cases e : n = k + 1
    · subst e; rfl
    · rw [marksB_mono (sizeB_up h (show n ≤ k by omega)), ih (by omega)]
theorem cnt_two {ts : List (List Nat)} (h : MkOk ts) : cntM ts ≤ 2 := by
  have : ∀ us : List (List Nat), Once ts us → us.length ≤ 2 := fun us ho => by
    have hm : ∀ x ∈ us, x = q "n" ∨ x = q "e" := fun x hx => h x ((ho.2 x).mp hx)
    match us, ho.1, hm with
    | [], _, _ => simp
    | [_], _, _ => simp
    | [_, _], _, _ => simp
    | a :: b :: c :: r, hn, hm =>
      have h1 := hm a (by simp)
      have h2 := hm b (by simp)
      have h3 := hm c (by simp)
      simp only [List.nodup_cons, List.mem_cons, not_or] at hn
      exfalso
      rcases h1 with h1 | h1 <;> rcases h2 with h2 | h2 <;> rcases h3 with h3 | h3 <;> simp_all
  have := this _ once_met
  rwa [List.length_map] at this
/-! ### valid bodies are plain, and not much -/
theorem whole_std {lo hi : Int} {d : D} (h : wholeD lo hi d = true) : ∃ i, d = .int i := by
  cases d with
  | int i => exact ⟨i, rfl⟩
  | _ => cases h
theorem simple_std {ns : List (List Nat)} {w : List Nat} {l : List D} (h : simpleL ns (.str w :: l) = true) : (∀ d ∈ l, stdB d = true ∧ dep d = 0 ∧ wt d = 1) ∧ l.length ≤ 2 := by
  match l, h with
  | [x], h =>
    have h : (nameB ns x && decide (w = q "back")) = true := h
    rw [Bool.and_eq_true] at h
    obtain ⟨z, rfl, _⟩ := nameB_inv h.1
    refine ⟨fun d hd => ?_, by simp⟩
    rw [List.mem_singleton.mp hd]
    exact ⟨rfl, rfl, rfl⟩
  | [x, y], h =>
    have h : (nameB ns x && (if w = q "back" then false else if w = q "take" then wholeD 1 3 y else if w = q "until" then markD y else if w = q "give" then nameB ns y && !neD x y else false)) = true := h
    rw [Bool.and_eq_true] at h
    obtain ⟨z, rfl, _⟩ := nameB_inv h.1
    have hy : stdB y = true ∧ dep y = 0 ∧ wt y = 1 := by
      have h2 := h.2
      split at h2
      · cases h2
      · split at h2
        · obtain ⟨i, rfl⟩ := whole_std h2
          exact ⟨rfl, rfl, rfl⟩
        · split at h2
          · obtain ⟨z, rfl, _⟩ := markD_inv h2
            exact ⟨rfl, rfl, rfl⟩
          · split at h2
            · rw [Bool.and_eq_true] at h2
              obtain ⟨z, rfl, _⟩ := nameB_inv h2.1
              exact ⟨rfl, rfl, rfl⟩
            · cases h2
    refine ⟨fun d hd => ?_, by simp⟩
    rcases List.mem_cons.mp hd with z | z
    · rw [z]; exact ⟨rfl, rfl, rfl⟩
    · rw [List.mem_singleton.mp z]; exact hy
/-- what a valid body holds -/
def Lim (n m : Nat) (d : D) : Prop := stdB d = true ∧ dep d ≤ 2 * n ∧ wt d ≤ 1 + 7 * m
theorem lim_parts {n : Nat} {f : D → Option Nat} (h : ∀ d m, f d = some m → Lim n m d) : ∀ {l : List D} {m : Nat}, sumO (l.map f) = some m → (∀ d ∈ l, stdB d = true) ∧ (∀ d ∈ l, dep d ≤ 2 * n) ∧ wts l ≤ l.length + 7 * m
  | [], m, e => by cases e; exact ⟨fun _ h => (by cases h), fun _ h => (by cases h), by simp [wts]⟩
  | x :: l, m, e => by
    rw [List.map_cons] at e
    cases e1 : f x with
    | none => rw [e1] at e; cases e
    | some a =>
      rw [e1] at e
      have e : (sumO (l.map f)).map (a + ·) = some m := e
      cases e2 : sumO (l.map f) with
      | none => rw [e2] at e; cases e
      | some c =>
        rw [e2] at e
        have e : some (a + c) = some m := e
        cases e
        obtain ⟨h1, h2, h3⟩ := lim_parts h e2
        obtain ⟨k1, k2, k3⟩ := h x a e1
        refine ⟨fun d hd => ?_, fun d hd => ?_, ?_⟩
        · rcases List.mem_cons.mp hd with z | z
          · rw [z]; exact k1
          · exact h1 d z
        · rcases List.mem_cons.mp hd with z | z
          · rw [z]; exact k2
          · exact h2 d z
        · rw [wts, List.length_cons]; omega
theorem head_std {ns : List (List Nat)} {w : List Nat} {l : List D} (hb : hasBody w = true) (h : headL ns (.str w :: l) = true) : ∃ pre : List D, l = pre ++ innerL (.str w :: l) ∧ (∀ d ∈ pre, stdB d = true ∧ dep d = 0 ∧ wt d = 1) ∧ pre.length ≤ 2 ∧ (innerL (.str w :: l)).length ≤ 2 := by
  have h2 : (if w = q "call" then decide (l.length = 1) else lookL ns (.str w :: l)) = true := h
  have e : innerL (.str w :: l) = (if w = q "if" ∨ w = q "while" then (D.str w :: l).drop 3 else if w = q "call" then l else []) := rfl
  rw [e]
  by_cases hc : w = q "call"
  · rw [if_pos hc, decide_eq_true_iff] at h2
    rw [if_neg (by rw [hc]; exact fun z => z.elim q_ne q_ne), if_pos hc]
    exact ⟨[], rfl, fun _ h => (by cases h), by simp, by omega⟩
  · rw [if_neg hc] at h2
    obtain ⟨x, z, r, rfl, _, _, h5⟩ := lookL_inv h2
    have hw : w = q "if" ∨ w = q "while" := by
      rcases hasBody_iff.mp hb with z | z | z
      · exact .inl z
      · exact .inr z
      · exact absurd z hc
    rw [if_pos hw]
    refine ⟨[.str x, .str z], rfl, fun d hd => ?_, by simp, ?_⟩
    · rcases List.mem_cons.mp hd with z | z
      · rw [z]; exact ⟨rfl, rfl, rfl⟩
      · rw [List.mem_singleton.mp z]; exact ⟨rfl, rfl, rfl⟩
    · show r.length ≤ 2
      split at h5 <;> omega
theorem wts_one : ∀ {l : List D}, (∀ d ∈ l, wt d = 1) → wts l = l.length
  | [], _ => rfl
  | x :: l, h => by rw [wts, h x List.mem_cons_self, wts_one fun d hd => h d (List.mem_cons_of_mem _ hd), List.length_cons]; omega
theorem limI {ns : List (List Nat)} {n : Nat} {sz : D → Option Nat} (h : ∀ d m, sz d = some m → Lim n m d) {it : D} {m : Nat} (e : sizeI ns sz it = some m) : stdB it = true ∧ dep it ≤ 2 * n + 1 ∧ wt it + 1 ≤ 1 + 7 * m := by
  obtain ⟨w, l, rfl, h3⟩ := sizeI_inv e
  rcases h3 with ⟨h1, h2, m', h4, rfl⟩ | ⟨h1, h2, rfl⟩
  · obtain ⟨pre, e1, e2, e3, e4⟩ := head_std h1 h2
    obtain ⟨k1, k2, k3⟩ := lim_parts h h4
    have hwl : wts l ≤ 2 + (innerL (.str w :: l)).length + 7 * m' := by
      have := wts_app pre (innerL (.str w :: l))
      rw [← e1, wts_one fun d hd => (e2 d hd).2.2] at this
      omega
    have hmem : ∀ d ∈ l, stdB d = true ∧ dep d ≤ 2 * n := fun d hd => by
      rw [e1] at hd
      rcases List.mem_append.mp hd with z | z
      · exact ⟨(e2 d z).1, by rw [(e2 d z).2.1]; omega⟩
      · exact ⟨k1 d z, k2 d z⟩
    refine ⟨?_, ?_, ?_⟩
    · rw [std_tup]
      intro d hd
      rcases List.mem_cons.mp hd with z | z
      · rw [z]; rfl
      · exact (hmem d z).1
    · rw [dep]
      have : deps (.str w :: l) ≤ 2 * n := deps_le.mpr fun d hd => by
        rcases List.mem_cons.mp hd with z | z
        · rw [z]; exact Nat.zero_le _
        · exact (hmem d z).2
      omega
    · rw [wt, wts]
      have : wt (.str w) = 1 := rfl
      omega
  · obtain ⟨k1, k2⟩ := simple_std h2
    refine ⟨?_, ?_, ?_⟩
    · rw [std_tup]
      intro d hd
      rcases List.mem_cons.mp hd with z | z
      · rw [z]; rfl
      · exact (k1 d z).1
    · rw [dep]
      have : deps (.str w :: l) ≤ 0 := deps_le.mpr fun d hd => by
        rcases List.mem_cons.mp hd with z | z
        · rw [z]; exact Nat.zero_le _
        · rw [(k1 d z).2.1]; exact Nat.le_refl _
      omega
    · rw [wt, wts, wts_one fun d hd => (k1 d hd).2.2]
      have : wt (.str w) = 1 := rfl
      omega
theorem lim_items {n : Nat} {f : D → Option Nat} (h : ∀ d m, f d = some m → stdB d = true ∧ dep d ≤ 2 * n + 1 ∧ wt d + 1 ≤ 1 + 7 * m) : ∀ {l : List D} {m : Nat}, sumO (l.map f) = some m → (∀ d ∈ l, stdB d = true) ∧ (∀ d ∈ l, dep d ≤ 2 * n + 1) ∧ wts l ≤ 7 * m
  | [], m, e => by cases e; exact ⟨fun _ h => (by cases h), fun _ h => (by cases h), by simp [wts]⟩
  | x :: l, m, e => by
    rw [List.map_cons] at e
    cases e1 : f x with
    | none => rw [e1] at e; cases e
    | some a =>
      rw [e1] at e
      have e : (sumO (l.map f)).map (a + ·) = some m := e
      cases e2 : sumO (l.map f) with
      | none => rw [e2] at e; cases e
      | some c =>
        rw [e2] at e
        have e : some (a + c) = some m := e
        cases e
        obtain ⟨h1, h2, h3⟩ := lim_items h e2
        obtain ⟨k1, k2, k3⟩ := h x a e1
        refine ⟨fun d hd => ?_, fun d hd => ?_, ?_⟩
        · rcases List.mem_cons.mp hd with z | z
          · rw [z]; exact k1
          · exact h1 d z
        · rcases List.mem_cons.mp hd with z | z
          · rw [z]; exact k2
          · exact h2 d z
        · rw [wts]; omega
theorem limB {ns : List (List Nat)} : ∀ (n : Nat) (b : D) (m : Nat), sizeB ns n b = some m → Lim n m b
  | 0, b, m, h => by cases h
  | n + 1, b, m, h => by
    cases b with
    | tup ds =>
      have h : sumO (ds.map (sizeI ns (sizeB ns n))) = some m := h
      obtain ⟨h1, h2, h3⟩ := lim_items (fun d a e => limI (fun d' a' e' => limB n d' a' e') e) h
      refine ⟨std_tup.mpr h1, ?_, ?_⟩
      · rw [dep]
        have := deps_le.mpr h2
        omega
      · rw [wt]
        omega
    | _ => cases h
end K01

set_option Elab.async false
set_option linter.all false
set_option maxRecDepth 100000
set_option maxHeartbeats 1000000
namespace K01
open PySem L2 DL
/-! ### a body by chance -/
def cost : Nat → Nat
  | 0 => 40
  | d + 1 => 40 + 8 * cost d
def ItOk (ns : List (List Nat)) (dp : Nat) (it : D) (m : Nat) : Prop := sizeI ns (sizeB ns dp) it = some m ∧ MkOk (marksI (marksB dp) it)
def BodyOk (ns : List (List Nat)) (dp : Nat) (items : List D) (m : Nat) : Prop := sumO (items.map (sizeI ns (sizeB ns dp))) = some m ∧ ∀ it ∈ items, MkOk (marksI (marksB dp) it)
theorem BodyOk.snoc {ns : List (List Nat)} {dp : Nat} {items : List D} {m : Nat} {it : D} {a : Nat} (h : BodyOk ns dp items m) (i : ItOk ns dp it a) : BodyOk ns dp (items ++ [it]) (m + a) := by
  refine ⟨?_, fun d hd => ?_⟩
  · rw [List.map_append, sumO_app h.1, List.map_cons, i.1]
    rfl
  · rcases List.mem_append.mp hd with z | z
    · exact h.2 d z
    · rw [List.mem_singleton.mp z]; exact i.2
theorem BodyOk.len {ns : List (List Nat)} {dp : Nat} {items : List D} {m : Nat} (h : BodyOk ns dp items m) : items.length ≤ m := by
  have : ∀ (l : List D) (m : Nat), sumO (l.map (sizeI ns (sizeB ns dp))) = some m → l.length ≤ m := by
    intro l
    induction l with
    | nil => intro m _; exact Nat.zero_le _
    | cons d l ih =>
      intro m h
      rw [List.map_cons] at h
      cases e : sizeI ns (sizeB ns dp) d with
      | none => rw [e] at h; cases h
      | some a =>
        rw [e] at h
        have h : (sumO (l.map (sizeI ns (sizeB ns dp)))).map (a + ·) = some m := h
        cases e2 : sumO (l.map (sizeI ns (sizeB ns dp))) with
        | none => rw [e2] at h; cases h
        | some c =>
          rw [e2] at h
          have h : some (a + c) = some m := h
          cases h
          have h1 := ih c e2
          have h2 : 1 ≤ a := by
            obtain ⟨w, l', rfl, h3⟩ := sizeI_inv e
            rcases h3 with ⟨_, _, m', _, rfl⟩ | ⟨_, _, rfl⟩ <;> omega
          rw [List.length_cons]
          omega
  exact this items m h.1
theorem BodyOk.body {ns : List (List Nat)} {dp : Nat} {items : List D} {m : Nat} (h : BodyOk ns dp items m) : sizeB ns (dp + 1) (.tup items) = some m ∧ MkOk (marksB (dp + 1) (.tup items)) := by
  refine ⟨h.1, fun x hx => ?_⟩
  have hx : x ∈ (items.map (marksI (marksB dp))).flatten := hx
  obtain ⟨l, hl, hxl⟩ := List.mem_flatten.mp hx
  obtain ⟨it, hit, rfl⟩ := List.mem_map.mp hl
  exact h.2 it hit x hxl
section
variable {ns : List (List Nat)} {dp : Nat} {z y mk : List Nat}
theorem name_in (hz : z ∈ ns) : nameB ns (.str z) = true := decide_eq_true hz
theorem it_simple {w : List Nat} {l : List D} (hw : hasBody w = false) (h : simpleL ns (.str w :: l) = true) (hm : MkOk (ownM (.str w :: l))) : ItOk ns dp (.tup (.str w :: l)) 1 := by
  refine ⟨?_, ?_⟩
  · show (if hasBody w = true then _ else if simpleL ns (.str w :: l) = true then some 1 else none) = some 1
    rw [if_neg (by rw [hw]; exact Bool.false_ne_true), if_pos h]
  · show MkOk (ownM (.str w :: l) ++ ((innerL (.str w :: l)).map (marksB dp)).flatten)
    rw [simple_inner hw]
    simpa using hm
theorem mk_nil : MkOk [] := fun _ h => by cases h
theorem it_take {i : Int} (hz : z ∈ ns) (h1 : 1 ≤ i) (h2 : i ≤ 3) : ItOk ns dp (.tup [.str (q "take"), .str z, .int i]) 1 := by
  refine it_simple (by decide) ?_ mk_nil
  show (nameB ns (.str z) && (if q "take" = q "back" then false else if q "take" = q "take" then wholeD 1 3 (.int i) else _)) = true
  rw [name_in hz, if_neg q_ne, if_pos rfl]
  show (true && (decide (1 ≤ i) && decide (i ≤ 3))) = true
  rw [decide_eq_true h1, decide_eq_true h2]
  rfl
theorem it_back (hz : z ∈ ns) : ItOk ns dp (.tup [.str (q "back"), .str z]) 1 := by
  refine it_simple (by decide) ?_ mk_nil
  show (nameB ns (.str z) && decide (q "back" = q "back")) = true
  rw [name_in hz, decide_eq_true rfl]
  rfl
theorem mark_ok (hm : mk = q "n" ∨ mk = q "e") : markD (.str mk) = true ∧ mk ≠ [] ∧ mk.length = 1 := by
  rcases hm with rfl | rfl
  · exact ⟨by decide +kernel, by decide, by decide⟩
  · exact ⟨by decide +kernel, by decide, by decide⟩
theorem it_until (hz : z ∈ ns) (hm : mk = q "n" ∨ mk = q "e") : ItOk ns dp (.tup [.str (q "until"), .str z, .str mk]) 1 := by
  refine it_simple (by decide) ?_ ?_
  · show (nameB ns (.str z) && (if q "until" = q "back" then false else if q "until" = q "take" then _ else if q "until" = q "until" then markD (.str mk) else _)) = true
    rw [name_in hz, if_neg q_ne, if_neg q_ne, if_pos rfl, (mark_ok hm).1]
    rfl
  · show MkOk (if isMk (q "until") = true ∧ mk ≠ [] then [mk] else [])
    rw [if_pos ⟨by decide, (mark_ok hm).2.1⟩]
    intro x hx
    rw [List.mem_singleton.mp hx]
    exact hm
theorem it_give (hz : z ∈ ns) (hy : y ∈ ns) (hne : y ≠ z) : ItOk ns dp (.tup [.str (q "give"), .str z, .str y]) 1 := by
  refine it_simple (by decide) ?_ ?_
  · show (nameB ns (.str z) && (if q "give" = q "back" then false else if q "give" = q "take" then _ else if q "give" = q "until" then _ else if q "give" = q "give" then nameB ns (.str y) && !neD (.str z) (.str y) else _)) = true
    rw [name_in hz, if_neg q_ne, if_neg q_ne, if_neg q_ne, if_pos rfl, name_in hy]
    show (true && (true && !(z == y))) = true
    rw [beq_eq_false_iff_ne.mpr (Ne.symm hne)]
    rfl
  · show MkOk (if isMk (q "give") = true ∧ y ≠ [] then [y] else [])
    rw [if_neg (fun c => by have := c.1; revert this; decide)]
    exact mk_nil
theorem it_body {w : List Nat} {l : List D} {m : Nat} (hw : hasBody w = true) (h : headL ns (.str w :: l) = true) (hs : sumO ((innerL (.str w :: l)).map (sizeB ns dp)) = some m) (ho : MkOk (ownM (.str w :: l))) (hm : ∀ d ∈ innerL (.str w :: l), MkOk (marksB dp d)) : ItOk ns dp (.tup (.str w :: l)) (1 + m) := by
  refine ⟨?_, ?_⟩
  · show (if hasBody w = true then (if headL ns (.str w :: l) = true then (sumO ((innerL (.str w :: l)).map (sizeB ns dp))).map (1 + ·) else none) else _) = _
    rw [if_pos hw, if_pos h, hs]
    rfl
  · show MkOk (ownM (.str w :: l) ++ ((innerL (.str w :: l)).map (marksB dp)).flatten)
    intro x hx
    rcases List.mem_append.mp hx with z | z
    · exact ho x z
    · obtain ⟨l', hl, hxl⟩ := List.mem_flatten.mp z
      obtain ⟨d, hd, rfl⟩ := List.mem_map.mp hl
      exact hm d hd x hxl
theorem sumO1 {f : D → Option Nat} {b : D} {m : Nat} (h : f b = some m) : sumO ([b].map f) = some m := by
  show sumO [f b] = _
  rw [h]
  rfl
theorem sumO2 {f : D → Option Nat} {b c : D} {m k : Nat} (h : f b = some m) (h2 : f c = some k) : sumO ([b, c].map f) = some (m + k) := by
  show sumO [f b, f c] = _
  rw [h, h2]
  rfl
theorem it_call {b : D} {m : Nat} (h : sizeB ns dp b = some m) (hm : MkOk (marksB dp b)) : ItOk ns dp (.tup [.str (q "call"), b]) (1 + m) :=
  it_body (by decide) (by show (if q "call" = q "call" then decide ([b].length = 1) else lookL ns [.str (q "call"), b]) = true; rw [if_pos rfl]; rfl) (sumO1 (b := b) h) mk_nil fun d hd => by
    have hd : d ∈ [b] := hd
    rw [List.mem_singleton.mp hd]; exact hm
theorem own_look {w : List Nat} {x : D} {l : List D} (hm : mk = q "n" ∨ mk = q "e" ∨ mk = q "") : MkOk (ownM (.str w :: x :: .str mk :: l)) := by
  show MkOk (if isMk w = true ∧ mk ≠ [] then [mk] else [])
  split
  · rename_i h
    intro y hy
    rw [List.mem_singleton.mp hy]
    rcases hm with z | z | z
    · exact .inl z
    · exact .inr z
    · exact absurd z h.2
  · exact mk_nil
theorem markE_ok (hm : mk = q "n" ∨ mk = q "e" ∨ mk = q "") : markE (.str mk) = true := by
  rcases hm with rfl | rfl | rfl <;> decide +kernel
theorem it_if {b c : D} {m k : Nat} (hz : z ∈ ns) (hk : mk = q "n" ∨ mk = q "e" ∨ mk = q "") (h : sizeB ns dp b = some m) (h2 : sizeB ns dp c = some k) (hm : MkOk (marksB dp b)) (hm2 : MkOk (marksB dp c)) : ItOk ns dp (.tup [.str (q "if"), .str z, .str mk, b, c]) (1 + (m + k)) := by
  refine it_body (by decide) ?_ (sumO2 (b := b) (c := c) h h2) (own_look hk) fun d hd => ?_
  · show (if q "if" = q "call" then decide ([D.str z, .str mk, b, c].length = 1) else (decide (2 + 3 = (if q "if" = q "while" then 4 else 5)) && nameB ns (.str z) && markE (.str mk))) = true
    rw [if_neg q_ne, if_neg q_ne, name_in hz, markE_ok hk]
    rfl
  · have hd : d ∈ [b, c] := hd
    rcases List.mem_cons.mp hd with e | e
    · rw [e]; exact hm
    · rw [List.mem_singleton.mp e]; exact hm2
theorem it_while {b : D} {m : Nat} (hz : z ∈ ns) (hk : mk = q "n" ∨ mk = q "e" ∨ mk = q "") (h : sizeB ns dp b = some m) (hm : MkOk (marksB dp b)) : ItOk ns dp (.tup [.str (q "while"), .str z, .str mk, b]) (1 + m) := by
  refine it_body (by decide) ?_ (sumO1 (b := b) h) (own_look hk) fun d hd => ?_
  · show (if q "while" = q "call" then decide ([D.str z, .str mk, b].length = 1) else (decide (1 + 3 = (if q "while" = q "while" then 4 else 5)) && nameB ns (.str z) && markE (.str mk))) = true
    rw [if_neg q_ne, if_pos rfl, name_in hz, markE_ok hk]
    rfl
  · have hd : d ∈ [b] := hd
    rw [List.mem_singleton.mp hd]; exact hm
end
@[simp] def sp_law_body (dp : Nat) : SpD := fun ds M Q _ => match ds with
  | [.ref p, r, .int d, .ref lf] => d = (dp : Int) ∧ readersD r = true ∧ p ≠ lf ∧ ∃ B o k, M p = some o ∧ DkO B o ∧ B + cost dp < 2147483648 ∧ M lf = some (.lst [.int k]) ∧ k ≤ 20 ∧
      ∀ items m k' o', BodyOk (namesD r) dp items m → (m : Int) + 2 * max k' 0 ≤ 2 * max k 0 → k' ≤ k - 1 → DkO (B + cost dp) o' → Q (.tup items) (mu (mu M p o') lf (.lst [.int k']))
  | _ => False
/-- the objects while a body is made -/
structure Bd (M M' : Mm) (p lf qi : Addr) (o : MO) (k : Int) (items : List D) : Prop where
  g : gc M M' = mu (mu M p o) lf (.lst [.int k])
  qn : M qi = none
  qi : M' qi = some (.lst items)
section
variable {M M' : Mm} {p lf qi : Addr} {o o2 : MO} {k k2 : Int} {items it2 : List D}
theorem gc_at {a : Addr} (h : M a ≠ none) : gc M M' a = M' a := by
  unfold gc
  cases e : M a with
  | none => exact absurd e h
  | some u => rfl
theorem Bd.atP (b : Bd M M' p lf qi o k items) (hp : M p ≠ none) (hne : p ≠ lf) : M' p = some o := by
  have e := gc_at (M' := M') hp
  rw [← e, b.g, mu_ne hne, mu_same]
theorem Bd.atL (b : Bd M M' p lf qi o k items) (hl : M lf ≠ none) : M' lf = some (.lst [.int k]) := by
  have e := gc_at (M' := M') hl
  rw [← e, b.g, mu_same]
theorem Bd.qp (b : Bd M M' p lf qi o k items) (hp : M p ≠ none) : qi ≠ p := fun e => hp (by rw [← e]; exact b.qn)
theorem Bd.setP (b : Bd M M' p lf qi o k items) (hp : M p ≠ none) (hne : p ≠ lf) : Bd M (mu M' p o2) p lf qi o2 k items :=
  ⟨by rw [gc_old hp, b.g, mu_comm (Ne.symm hne), mu_mu], b.qn, by rw [mu_ne (b.qp hp)]; exact b.qi⟩
theorem Bd.setL (b : Bd M M' p lf qi o k items) (hl : M lf ≠ none) : Bd M (mu M' lf (.lst [.int k2])) p lf qi o k2 items :=
  ⟨by rw [gc_old hl, b.g, mu_mu], b.qn, by rw [mu_ne fun e => hl (by rw [← e]; exact b.qn)]; exact b.qi⟩
theorem Bd.setI (b : Bd M M' p lf qi o k items) : Bd M (mu M' qi (.lst it2)) p lf qi o k it2 :=
  ⟨by rw [gc_new b.qn, b.g], b.qn, mu_same⟩
theorem Bd.free {a : Addr} (b : Bd M M' p lf qi o k items) (ha : M' a = none) : M a = none ∧ a ≠ qi := by
  refine ⟨?_, fun e => by rw [e, b.qi] at ha; cases ha⟩
  cases e : M a with
  | none => rfl
  | some v =>
    have h1 : gc M M' a = M' a := gc_at (by rw [e]; simp)
    rw [b.g, ha] at h1
    by_cases e1 : a = lf
    · rw [e1, mu_same] at h1; cases h1
    · rw [mu_ne e1] at h1
      by_cases e2 : a = p
      · rw [e2, mu_same] at h1; cases h1
      · rw [mu_ne e2, e] at h1; cases h1
theorem Bd.setX {a : Addr} {u : MO} (b : Bd M M' p lf qi o k items) (ha : M a = none) (hq : a ≠ qi) : Bd M (mu M' a u) p lf qi o k items :=
  ⟨by rw [gc_new ha, b.g], b.qn, by rw [mu_ne (Ne.symm hq)]; exact b.qi⟩
theorem Bd.new {a : Addr} {u : MO} (b : Bd M M' p lf qi o k items) (hp : M p ≠ none) (hl : M lf ≠ none) (ha : M' a = none) : Bd M (mu M' a u) p lf qi o k items := by
  have hn : M a = none := by
    cases e : M a with
    | none => rfl
    | some v =>
      have h1 : gc M M' a = M' a := gc_at (by rw [e]; simp)
      rw [b.g, ha] at h1
      by_cases e1 : a = lf
      · rw [e1, mu_same] at h1; cases h1
      · rw [mu_ne e1] at h1
        by_cases e2 : a = p
        · rw [e2, mu_same] at h1; cases h1
        · rw [mu_ne e2, e] at h1; cases h1
  exact ⟨by rw [gc_new hn, b.g], b.qn, by rw [mu_ne fun e => by rw [e] at b; rw [b.qi] at ha; cases ha]; exact b.qi⟩
end
/-- one step by its kind -/
def t5 (sp_law_pick sp_law_one sp_law_body : SpD) : TSd := (tdIfS (tdTest (tdOp dLt (tdVar 7) (tdC (.int 6)))) (tdDrop (tdBM "list" dAppend (tdVar 4) (tdCons (tdTup (tdCons (tdC (.str (q "take"))) (tdCons (tdVar 8) (tdCons (tdOp dAdd (tdC (.int 1)) (tdCall sp_law_pick (tdCons (tdVar 0) (tdCons (tdC (.int 3)) tdNil)))) tdNil)))) tdNil))) (tdIfS (tdTest (tdOp dLt (tdVar 7) (tdC (.int 9)))) (tdDrop (tdBM "list" dAppend (tdVar 4) (tdCons (tdTup (tdCons (tdC (.str (q "until"))) (tdCons (tdVar 8) (tdCons (tdVar 9) tdNil)))) tdNil))) (tdIfS (tdTest (tdOp dEq (tdVar 7) (tdC (.int 9)))) (tdDrop (tdBM "list" dAppend (tdVar 4) (tdCons (tdTup (tdCons (tdC (.str (q "back"))) (tdCons (tdVar 8) tdNil))) tdNil))) (tdIfS (tdAnd (tdTest (tdOp dEq (tdVar 7) (tdC (.int 10)))) (tdTest (tdOp dGt (tdCB dLen (tdCons (tdVar 5) tdNil)) (tdC (.int 1))))) (tdSeq (tdSet 10 (tdLc (tdSeqI (tdVar 5)) (.one 13) (tdTest (tdOp dNe (tdVar 13) (tdVar 8))) (tdVar 13) [13])) (tdDrop (tdBM "list" dAppend (tdVar 4) (tdCons (tdTup (tdCons (tdC (.str (q "give"))) (tdCons (tdVar 8) (tdCons (tdCall sp_law_one (tdCons (tdVar 0) (tdCons (tdVar 10) tdNil))) tdNil)))) tdNil)))) (tdIfS (tdOr (tdTest (tdOp dEq (tdVar 2) (tdC (.int 0)))) (tdTest (tdOp dLt (tdVar 7) (tdC (.int 12))))) (tdDrop (tdBM "list" dAppend (tdVar 4) (tdCons (tdTup (tdCons (tdC (.str (q "take"))) (tdCons (tdVar 8) (tdCons (tdC (.int 1)) tdNil)))) tdNil))) (tdIfS (tdTest (tdOp dLt (tdVar 7) (tdC (.int 14)))) (tdDrop (tdBM "list" dAppend (tdVar 4) (tdCons (tdTup (tdCons (tdC (.str (q "call"))) (tdCons (tdCall sp_law_body (tdCons (tdVar 0) (tdCons (tdVar 1) (tdCons (tdOp dSub (tdVar 2) (tdC (.int 1))) (tdCons (tdVar 3) tdNil))))) tdNil))) tdNil))) (tdIfS (tdTest (tdOp dLt (tdVar 7) (tdC (.int 17)))) (tdSeq (tdSet 11 (tdLcM (tdRng1 (tdCons (tdC (.int 2)) tdNil)) (.one 14) tdYes (tdCall sp_law_body (tdCons (tdVar 0) (tdCons (tdVar 1) (tdCons (tdOp dSub (tdVar 2) (tdC (.int 1))) (tdCons (tdVar 3) tdNil))))) [14])) (tdSeq (tdSub (tdVar 11) (tdC (.int 1)) (tdIf (tdTest (tdOp dEq (tdCall sp_law_pick (tdCons (tdVar 0) (tdCons (tdC (.int 2)) tdNil))) (tdC (.int 0)))) (tdOp dIxS (tdVar 11) (tdC (.int 1))) (tdTup tdNil))) (tdDrop (tdBM "list" dAppend (tdVar 4) (tdCons (tdOp dAdd (tdTup (tdCons (tdC (.str (q "if"))) (tdCons (tdVar 8) (tdCons (tdCall sp_law_one (tdCons (tdVar 0) (tdCons (tdLst (tdCons (tdVar 9) (tdCons (tdVar 9) (tdCons (tdC (.str (q ""))) tdNil)))) tdNil))) tdNil)))) (tdCB dTupC (tdCons (tdVar 11) tdNil))) tdNil))))) (tdSeq (tdSet 11 (tdCall sp_law_body (tdCons (tdVar 0) (tdCons (tdVar 1) (tdCons (tdOp dSub (tdVar 2) (tdC (.int 1))) (tdCons (tdVar 3) tdNil)))))) (tdSeq (tdSet 11 (tdIf (tdTest (tdOp dEq (tdCall sp_law_pick (tdCons (tdVar 0) (tdCons (tdC (.int 6)) tdNil))) (tdC (.int 0)))) (tdVar 11) (tdOp dAdd (tdVar 11) (tdTup (tdCons (tdTup (tdCons (tdC (.str (q "take"))) (tdCons (tdCall sp_law_one (tdCons (tdVar 0) (tdCons (tdVar 5) tdNil))) (tdCons (tdC (.int 1)) tdNil)))) tdNil))))) (tdDrop (tdBM "list" dAppend (tdVar 4) (tdCons (tdTup (tdCons (tdC (.str (q "while"))) (tdCons (tdVar 8) (tdCons (tdCall sp_law_one (tdCons (tdVar 0) (tdCons (tdLst (tdCons (tdVar 9) (tdCons (tdVar 9) (tdCons (tdC (.str (q ""))) tdNil)))) tdNil))) (tdCons (tdVar 11) tdNil))))) tdNil))))))))))))
end K01

set_option Elab.async false
set_option linter.all false
set_option maxRecDepth 100000
set_option maxHeartbeats 1000000
namespace K01
open PySem L2 DL
def sub : Nat → Nat
  | 0 => 0
  | d + 1 => cost d
def neB (z : List Nat) : D → Bool
  | .str y => !(y == z)
  | _ => false
section
variable {dp : Nat} {spB : SpD} {M M' : Mm} {p lf qi : Addr} {r : D} {o : MO} {k kind : Int} {items : List D} {ns : List (List Nat)} {C : Nat} {z mk : List Nat} {x6 x10 x11 x12 x13 x14 : Option D} {κ b c : Sg → Mm → Prop} {rt : QD}
theorem r_t5 (hB : ∀ ds M Q E, (∃ d, dp = d + 1 ∧ sp_law_body d ds M Q E) → spB ds M Q E) (hp : M p ≠ none) (hl : M lf ≠ none) (hne : p ≠ lf) (hr : readersD r = true) (hns : namesD r = ns)
    (hbd : Bd M M' p lf qi o k items) (hd : DkO C o) (hC : C + 10 + 2 * sub dp < 2147483648) (hk0 : 0 ≤ k) (hk : k ≤ 19) (hz : z ∈ ns) (hmk : mk = q "n" ∨ mk = q "e") (hlen : items.length ≤ 1000) (hnl : ns.length ≤ 4) (hdis : 1 < ns.length → ∃ y ∈ ns, y ≠ z)
    (fin : ∀ it a o2 k2 C2 M2 y10 y11, ItOk ns dp it a → (a : Int) + 2 * max k2 0 ≤ 2 * k + 2 → k2 ≤ k → DkO C2 o2 → C2 ≤ C + 5 + 2 * sub dp → Bd M M2 p lf qi o2 k2 (items ++ [it]) →
      κ [some (.ref p), some r, some (.int dp), some (.ref lf), some (.ref qi), some (.lst (ns.map .str)), x6, some (.int kind), some (.str z), some (.str mk), y10, y11, x12, x13, x14] M2) :
    t5 sp_law_pick sp_law_one spB ⟨κ, rt, b, c⟩ [some (.ref p), some r, some (.int dp), some (.ref lf), some (.ref qi), some (.lst (ns.map .str)), x6, some (.int kind), some (.str z), some (.str mk), x10, x11, x12, x13, x14] M' := by
  have hty : ∀ M2, M2 qi = some (.lst items) → tyD "list" M2 (.ref qi) := fun M2 h => .inl ⟨rfl, _, h⟩
  have hqp := hbd.qp hp
  have hsz : items.length < sizeLine := by rw [sizeLine_eq]; omega
  have hMp := hbd.atP hp hne
  have hk2 : max k 0 = k := by omega
  unfold t5
  by_cases c6 : kind < 6
  · refine if_yes M' (fun K hK => by simpa [-Bool.exists_bool, c6] using hK) ?_
    simp [-Bool.exists_bool, hty _ hbd.qi]
    refine ⟨C, o, hMp, hd, by omega, fun i o2 h0 h1 hd2 => ⟨by decide, items, by rw [mu_ne hqp]; exact hbd.qi, hsz, ?_⟩⟩
    exact fin _ 1 o2 k (C + 1) _ _ _ (it_take hz (by omega) (by omega)) (by omega) (by omega) hd2 (by omega) (hbd.setP hp hne).setI
  refine if_no M' (fun K hK => by simpa [-Bool.exists_bool, c6] using hK) ?_
  by_cases c9 : kind < 9
  · refine if_yes M' (fun K hK => by simpa [-Bool.exists_bool, c9] using hK) ?_
    simp [-Bool.exists_bool, hty _ hbd.qi]
    refine ⟨by decide, items, hbd.qi, hsz, ?_⟩
    exact fin _ 1 o k C _ _ _ (it_until hz hmk) (by omega) (by omega) hd (by omega) hbd.setI
  refine if_no M' (fun K hK => by simpa [-Bool.exists_bool, c9] using hK) ?_
  by_cases e9 : kind = 9
  · refine if_yes M' (fun K hK => by simpa [-Bool.exists_bool, e9] using hK) ?_
    simp [-Bool.exists_bool, hty _ hbd.qi]
    refine ⟨by decide, items, hbd.qi, hsz, ?_⟩
    exact fin _ 1 o k C _ _ _ (it_back hz) (by omega) (by omega) hd (by omega) hbd.setI
  have b9 : (kind == 9) = false := beq_eq_false_iff_ne.mpr e9
  refine if_no M' (fun K hK => by simpa [-Bool.exists_bool, b9] using hK) ?_
  by_cases e10 : kind = 10 ∧ 1 < ns.length
  · have bn : decide (1 < (ns.length : Int)) = true := decide_eq_true (by omega)
    refine if_yes M' (fun K hK => by simpa [-Bool.exists_bool, e10.1, bn] using hK) ?_
    refine seq_cut (fun σ M2 => ∃ ys : List (List Nat), ys ≠ [] ∧ ys.length ≤ 4 ∧ (∀ y ∈ ys, y ∈ ns ∧ y ≠ z) ∧ M2 = M' ∧ σ = [some (.ref p), some r, some (.int dp), some (.ref lf), some (.ref qi), some (.lst (ns.map .str)), x6, some (.int kind), some (.str z), some (.str mk), some (.lst (ys.map .str)), x11, x12, x13, x14]) ?_ fun kk hkk => ?_
    · rintro σ M2 ⟨ys, hy1, hy2, hy3, rfl, rfl⟩
      simp [-Bool.exists_bool, hty _ hbd.qi]
      refine ⟨hy1, by omega, C, o, hMp, hd, by omega, fun x o2 y hy hxy hd2 => ⟨by decide, items, by rw [mu_ne hqp]; exact hbd.qi, hsz, ?_⟩⟩
      subst hxy
      exact fin _ 1 o2 k (C + 1) _ _ _ (it_give hz (hy3 y hy).1 (hy3 y hy).2) (by omega) (by omega) hd2 (by omega) (hbd.setP hp hne).setI
    · simp [-Bool.exists_bool]
      intro p2 hp2
      refine lcD_of (neB z) id _ _ _ trivial (fun d hd => ?_) ?_ ?_
      · obtain ⟨y, _, rfl⟩ := List.mem_map.mp hd
        refine ⟨_, rfl, fun K hK => ?_, fun _ K hK => ?_⟩
        · simp [-Bool.exists_bool]
          exact hK
        · simp [-Bool.exists_bool]
          exact hK
      · rw [List.length_nil, List.length_map, sizeLine_eq]; omega
      · rw [List.nil_append, List.map_id, List.filter_map, me_mu hp2]
        obtain ⟨y, hy, hyz⟩ := hdis e10.2
        refine hkk _ _ ⟨ns.filter (neB z ∘ D.str), ?_, Nat.le_trans (List.length_filter_le _ _) hnl, fun y hy => ?_, rfl, rfl⟩
        · intro e
          have := List.filter_eq_nil_iff.mp e y hy
          exact this (by show (!(y == z)) = true; rw [beq_eq_false_iff_ne.mpr hyz]; rfl)
        · obtain ⟨h1, h2⟩ := List.mem_filter.mp hy
          have h2 : (!(y == z)) = true := h2
          rw [Bool.not_eq_true', beq_eq_false_iff_ne] at h2
          exact ⟨h1, h2⟩
  have b10 : ∀ K : Bool → Mm → Prop, K false M' → (if (kind == 10) = true then K (decide (1 < (ns.length : Int))) M' else K false M') := fun K hK => by
    by_cases e : kind = 10
    · rw [if_pos (by rw [e]; rfl), decide_eq_false (by omega)]
      exact hK
    · rw [if_neg (by rw [beq_eq_false_iff_ne.mpr e]; exact Bool.false_ne_true)]
      exact hK
  refine if_no M' (fun K hK => by simpa [-Bool.exists_bool] using b10 K hK) ?_
  by_cases e12 : dp = 0 ∨ kind < 12
  · refine if_yes M' (fun K hK => by
      simp [-Bool.exists_bool]
      by_cases e0 : dp = 0
      · simpa [e0] using hK
      · have := e12.resolve_left e0
        simpa [e0, this] using hK) ?_
    simp [-Bool.exists_bool, hty _ hbd.qi]
    refine ⟨by decide, items, hbd.qi, hsz, ?_⟩
    exact fin _ 1 o k C _ _ _ (it_take hz (by omega) (by omega)) (by omega) (by omega) hd (by omega) hbd.setI
  have e0 : dp ≠ 0 := fun e => e12 (.inl e)
  have e12' : ¬ kind < 12 := fun e => e12 (.inr e)
  refine if_no M' (fun K hK => by simpa [-Bool.exists_bool, e0, e12'] using hK) ?_
  obtain ⟨d, rfl⟩ : ∃ d, dp = d + 1 := ⟨dp - 1, by omega⟩
  have hsub : sub (d + 1) = cost d := rfl
  rw [hsub] at hC fin
  have hcast : ((d + 1 : Nat) : Int) = (d : Int) + 1 := by omega
  rw [hcast] at fin
  -- a body below
  have nest : ∀ (M2 : Mm) (o2 : MO) (k2 : Int) (C2 : Nat) (Q : QD), M2 p = some o2 → M2 lf = some (.lst [.int k2]) → k2 ≤ 19 → DkO C2 o2 → C2 + cost d < 2147483648 →
      (∀ bd m k3 o3, BodyOk ns d bd m → (m : Int) + 2 * max k3 0 ≤ 2 * max k2 0 → k3 ≤ k2 → DkO (C2 + cost d) o3 → Q (.tup bd) (mu (mu M2 p o3) lf (.lst [.int k3]))) →
      spB [.ref p, r, .int (d : Int), .ref lf] M2 Q X0 := fun M2 o2 k2 C2 Q h1 h2 h3 h4 h5 h6 => by
    refine hB _ _ _ _ ⟨d, rfl, ?_⟩
    refine ⟨rfl, hr, hne, C2, o2, k2, h1, h4, h5, h2, by omega, fun bd m k3 o3 hb hm hk3 hd3 => ?_⟩
    rw [hns] at hb
    exact h6 bd m k3 o3 hb hm (by omega) hd3
  have hMl := hbd.atL hl
  have hmk3 : ∀ x, x = mk ∨ x = mk ∨ x = q "" → x = q "n" ∨ x = q "e" ∨ x = q "" := fun x hx => by
    rcases hx with e | e | e
    · rw [e]; exact hmk.imp id .inl
    · rw [e]; exact hmk.imp id .inl
    · exact .inr (.inr e)
  by_cases c14 : kind < 14
  · refine if_yes M' (fun K hK => by simpa [-Bool.exists_bool, c14] using hK) ?_
    simp [-Bool.exists_bool, hty _ hbd.qi]
    refine nest M' o k C _ hMp hMl hk hd (by omega) fun bd m k3 o3 hb hm hk3 hd3 => ?_
    have hb2 := (hbd.setP (o2 := o3) hp hne).setL (k2 := k3) hl
    refine ⟨by decide, items, hb2.qi, hsz, ?_⟩
    exact fin _ (1 + m) o3 k3 (C + cost d) _ _ _ (it_call hb.body.1 hb.body.2) (by omega) hk3 hd3 (by omega) hb2.setI
  refine if_no M' (fun K hK => by simpa [-Bool.exists_bool, c14] using hK) ?_
  by_cases c17 : kind < 17
  · refine if_yes M' (fun K hK => by simpa [-Bool.exists_bool, c17] using hK) ?_
    refine seq_cut (fun σ M2 => ∃ (b1 b2 : List D) (m1 m2 : Nat) (o3 : MO) (k3 : Int) (q3 : Addr), Bd M M2 p lf qi o3 k3 items ∧ M q3 = none ∧ q3 ≠ qi ∧ M2 q3 = some (.lst [.tup b1, .tup b2]) ∧ BodyOk ns d b1 m1 ∧ BodyOk ns d b2 m2 ∧ ((m1 + m2 : Nat) : Int) + 2 * max k3 0 ≤ 2 * max k 0 ∧ k3 ≤ k ∧ DkO (C + 2 * cost d) o3 ∧
        σ = [some (.ref p), some r, some (.int ((d : Int) + 1)), some (.ref lf), some (.ref qi), some (.lst (ns.map .str)), x6, some (.int kind), some (.str z), some (.str mk), x10, some (.ref q3), x12, x13, x14]) ?_ fun kk hkk => ?_
    · rintro σ M2 ⟨b1, b2, m1, m2, o3, k3, q3, hb3, hq3, hq3i, hM3, hb1, hb2, hm, hk3, hd3, rfl⟩
      have hq3p : q3 ≠ p := fun e => hp (by rw [← e]; exact hq3)
      refine seq_cut (fun σ M2 => ∃ (b2 : List D) (m2 : Nat) (o4 : MO), Bd M M2 p lf qi o4 k3 items ∧ M2 q3 = some (.lst [.tup b1, .tup b2]) ∧ BodyOk ns d b2 m2 ∧ ((m1 + m2 : Nat) : Int) + 2 * max k3 0 ≤ 2 * max k 0 ∧ DkO (C + 2 * cost d + 1) o4 ∧
        σ = [some (.ref p), some r, some (.int ((d : Int) + 1)), some (.ref lf), some (.ref qi), some (.lst (ns.map .str)), x6, some (.int kind), some (.str z), some (.str mk), x10, some (.ref q3), x12, x13, x14]) ?_ fun kk hkk => ?_
      · rintro σ M2 ⟨b2, m2, o4, hb4, hM4, hb2, hm, hd4, rfl⟩
        have hv4 : ∀ o5, vw (mu M2 p o5) (.ref q3) = .lst [.tup b1, .tup b2] := fun o5 => vw_ref (by rw [mu_ne hq3p]; exact hM4)
        simp [-Bool.exists_bool, hty _ hb4.qi, hv4]
        refine ⟨by decide, C + 2 * cost d + 1, o4, hb4.atP hp hne, hd4, by omega, fun x o5 hx hd5 => ⟨by decide, by decide, items, by rw [mu_ne hqp]; exact hb4.qi, hsz, ?_⟩⟩
        obtain ⟨y, rfl, hy⟩ : ∃ y, x = .str y ∧ (y = q "n" ∨ y = q "e" ∨ y = q "") := by
          rcases hx with rfl | rfl
          · exact ⟨mk, rfl, hmk3 _ (.inl rfl)⟩
          · exact ⟨q "", rfl, hmk3 _ (.inr (.inr rfl))⟩
        exact fin _ (1 + (m1 + m2)) o5 k3 (C + 2 * cost d + 2) _ _ _ (it_if hz hy hb1.body.1 hb2.body.1 hb1.body.2 hb2.body.2) (by omega) hk3 hd5 (by omega) (hb4.setP hp hne).setI
      · have hv3 : ∀ o5, vw (mu M2 p o5) (.ref q3) = .lst [.tup b1, .tup b2] := fun o5 => vw_ref (by rw [mu_ne hq3p]; exact hM3)
        have hM3p : ∀ o5, (mu M2 p o5) q3 = some (.lst [.tup b1, .tup b2]) := fun o5 => by rw [mu_ne hq3p]; exact hM3
        simp [-Bool.exists_bool, hv3, hM3p, ixN]
        refine ⟨C + 2 * cost d, o3, hb3.atP hp hne, hd3, by omega, fun r1 o4 _ _ hd4 => ?_⟩
        split
        · exact hkk _ _ ⟨b2, m2, o4, (hb3.setP hp hne).setX hq3 hq3i, mu_same, hb2, hm, hd4, rfl⟩
        · exact hkk _ _ ⟨[], 0, o4, (hb3.setP hp hne).setX hq3 hq3i, mu_same, ⟨rfl, fun _ h => nomatch h⟩, by omega, hd4, rfl⟩
    · have e2 : rngD 0 2 = [.int 0, .int 1] := rfl
      simp [-Bool.exists_bool, e2]
      intro x hx
      obtain ⟨hxn, hxq⟩ := hbd.free hx
      have hxp : x ≠ p := fun e => hp (by rw [← e]; exact hxn)
      have hxl : x ≠ lf := fun e => hl (by rw [← e]; exact hxn)
      have hb0 : Bd M (mu M' x .hid) p lf qi o k items := hbd.setX hxn hxq
      simp [lcD, -Bool.exists_bool]
      refine nest _ o k C _ (hb0.atP hp hne) (hb0.atL hl) hk hd (by omega) fun bd1 m1 k3 o3 h1 hm1 hk3 hd3 => ?_
      have hb1 := (hb0.setP (o2 := o3) hp hne).setL (k2 := k3) hl
      refine ⟨by decide, ?_⟩
      refine nest _ o3 k3 (C + cost d) _ (hb1.atP hp hne) (hb1.atL hl) (by omega) hd3 (by omega) fun bd2 m2 k4 o4 h2 hm2 hk4 hd4 => ?_
      have hb2 := (hb1.setP (o2 := o4) hp hne).setL (k2 := k4) hl
      refine ⟨by decide, ?_⟩
      exact hkk _ _ ⟨bd1, bd2, m1, m2, o4, k4, x, hb2.setX hxn hxq, hxn, hxq, mu_same, h1, h2, by omega, by omega, hd4.mono (by omega), rfl⟩
  refine if_no M' (fun K hK => by simpa [-Bool.exists_bool, c17] using hK) ?_
  refine seq_cut (fun σ M2 => ∃ (b1 : List D) (m1 : Nat) (o3 : MO) (k3 : Int), Bd M M2 p lf qi o3 k3 items ∧ BodyOk ns d b1 m1 ∧ (m1 : Int) + 2 * max k3 0 ≤ 2 * max k 0 ∧ k3 ≤ k ∧ DkO (C + cost d) o3 ∧
        σ = [some (.ref p), some r, some (.int ((d : Int) + 1)), some (.ref lf), some (.ref qi), some (.lst (ns.map .str)), x6, some (.int kind), some (.str z), some (.str mk), x10, some (.tup b1), x12, x13, x14]) ?_ fun kk hkk => ?_
  · rintro σ M2 ⟨b1, m1, o3, k3, hb3, hb1, hm, hk3, hd3, rfl⟩
    refine seq_cut (fun σ M2 => ∃ (b1 : List D) (m2 : Nat) (o4 : MO), Bd M M2 p lf qi o4 k3 items ∧ BodyOk ns d b1 m2 ∧ m2 ≤ m1 + 1 ∧ DkO (C + cost d + 2) o4 ∧
        σ = [some (.ref p), some r, some (.int ((d : Int) + 1)), some (.ref lf), some (.ref qi), some (.lst (ns.map .str)), x6, some (.int kind), some (.str z), some (.str mk), x10, some (.tup b1), x12, x13, x14]) ?_ fun kk hkk => ?_
    · rintro σ M2 ⟨b2, m2, o4, hb4, hb2, hm2, hd4, rfl⟩
      simp [-Bool.exists_bool, hty _ hb4.qi]
      refine ⟨by decide, C + cost d + 2, o4, hb4.atP hp hne, hd4, by omega, fun x o5 hx hd5 => ⟨by decide, items, by rw [mu_ne hqp]; exact hb4.qi, hsz, ?_⟩⟩
      obtain ⟨y, rfl, hy⟩ : ∃ y, x = .str y ∧ (y = q "n" ∨ y = q "e" ∨ y = q "") := by
        rcases hx with rfl | rfl
        · exact ⟨mk, rfl, hmk3 _ (.inl rfl)⟩
        · exact ⟨q "", rfl, hmk3 _ (.inr (.inr rfl))⟩
      exact fin _ (1 + m2) o5 k3 (C + cost d + 3) _ _ _ (it_while hz hy hb2.body.1 hb2.body.2) (by omega) hk3 hd5 (by omega) (hb4.setP hp hne).setI
    · simp [-Bool.exists_bool]
      refine ⟨C + cost d, o3, hb3.atP hp hne, hd3, by omega, fun r1 o4 _ _ hd4 => ?_⟩
      split
      · exact hkk _ _ ⟨b1, m1, o4, hb3.setP hp hne, hb1, by omega, hd4.mono (by omega), rfl⟩
      · have hbl := hb1.len
        refine ⟨fun e => (by rw [e] at hz; cases hz), by omega, C + cost d + 1, o4, mu_same, hd4, by omega, fun x o5 y hy hxy hd5 => ⟨by decide, by decide, by rw [sizeLine_eq]; omega, ?_⟩⟩
        subst hxy
        exact hkk _ _ ⟨b1 ++ [_], m1 + 1, o5, (hb3.setP hp hne).setP hp hne, hb1.snoc (it_take hy (by omega) (by omega)), by omega, hd5, rfl⟩
  · simp [-Bool.exists_bool]
    refine nest M' o k C _ hMp hMl hk hd (by omega) fun bd m k3 o3 hb hm hk3 hd3 => ?_
    exact hkk _ _ ⟨bd, m, o3, k3, (hbd.setP (o2 := o3) hp hne).setL (k2 := k3) hl, hb, hm, hk3, hd3, rfl⟩
end
end K01

set_option Elab.async false
set_option linter.all false
set_option maxRecDepth 100000
set_option maxHeartbeats 1000000
namespace K01
open PySem L2 DL
theorem cost_sub (dp : Nat) : cost dp = 40 + 8 * sub dp := by cases dp <;> rfl
theorem names_facts {r : D} (h : readersD r = true) : ∃ rs, r = .tup rs ∧ (namesD r).length = rs.length ∧ 1 ≤ rs.length ∧ rs.length ≤ 4 ∧ (∀ d ∈ rs, readerB d = true) ∧ (∀ z ∈ namesD r, 1 < (namesD r).length → ∃ y ∈ namesD r, y ≠ z) := by
  obtain ⟨rs, rfl, h1, h2, h3, h4⟩ := readersD_inv h
  refine ⟨rs, rfl, by show (rs.map nameOf).length = _; rw [List.length_map], h1, h2, h3, fun z _ hl => ?_⟩
  match rs, hl, h4 with
  | a :: b :: r, _, h4 =>
    have hab : ltS (nameOf a) (nameOf b) = true := by
      unfold ascB at h4
      exact List.all_eq_true.mp h4 (a, b) (by simp)
    rw [ltS_iff] at hab
    by_cases e : nameOf a = z
    · exact ⟨nameOf b, by simp [namesD], fun e2 => by rw [e, e2] at hab; exact absurd hab (List.lt_irrefl _)⟩
    · exact ⟨nameOf a, by simp [namesD], e⟩
theorem r_law_body (dp : Nat) (spB : SpD) (hB : ∀ ds M Q E, (∃ d, dp = d + 1 ∧ sp_law_body d ds M Q E) → spB ds M Q E) (ds : List D) (M : Mm) (Φ : QD) (Ψ : XD) (h : sp_law_body dp ds M Φ Ψ) : t_law_body sp_law_pick sp_law_one spB (endD M Φ) (startD n_law_body ds) M := by
  unfold sp_law_body at h
  split at h
  case h_2 => exact h.elim
  rename_i p r dd lf
  obtain ⟨rfl, hr, hne, B, o, k, hMp, hd, hB2, hMl, hk, h⟩ := h
  have hp : M p ≠ none := by rw [hMp]; simp
  have hl : M lf ≠ none := by rw [hMl]; simp
  obtain ⟨rs, rfl, hn1, hn2, hn3, hn4, hdis⟩ := names_facts hr
  generalize hns : namesD (.tup rs) = ns at *
  have hcs := cost_sub dp
  unfold t_law_body
  refine seq_cut (fun σ M' => ∃ qi, M qi = none ∧ σ = [some (.ref p), some (.tup rs), some (.int dp), some (.ref lf), some (.ref qi), some (.lst (ns.map .str)), none, none, none, none, none, none, none, none, none] ∧ M' = mu M qi (.lst [])) ?_ fun kk hkk => ?_
  · rintro σ M' ⟨qi, hqi, rfl, rfl⟩
    have hb0 : Bd M (mu M qi (.lst [])) p lf qi o k [] := ⟨by rw [gc_new hqi, gc_self, mu_id hMp, mu_id hMl], hqi, mu_same⟩
    refine seq_cut (fun σ M' => ∃ (items : List D) (m : Nat) (o2 : MO) (k2 : Int) (x6 x7 x8 x9 x10 x11 x12 x13 x14 : Option D), σ = [some (.ref p), some (.tup rs), some (.int dp), some (.ref lf), some (.ref qi), some (.lst (ns.map .str)), x6, x7, x8, x9, x10, x11, x12, x13, x14] ∧ Bd M M' p lf qi o2 k2 items ∧ BodyOk ns dp items m ∧ (m : Int) + 2 * max k2 0 ≤ 2 * max k 0 ∧ k2 ≤ k - 1 ∧ DkO (B + cost dp) o2) ?_ fun kk hkk => ?_
    · rintro σ M' ⟨items, m, o2, k2, x6, x7, x8, x9, x10, x11, x12, x13, x14, rfl, hb, hbo, hm, hk2, hd2⟩
      have hv : vw M' (.ref qi) = .lst items := vw_ref hb.qi
      simp [-Bool.exists_bool, hv]
      rw [hb.g]
      exact h items m k2 o2 hbo hm hk2 hd2
    · simp [-Bool.exists_bool]
      refine ⟨B, o, hb0.atP hp hne, hd, by omega, fun t o1 ht0 ht1 hd1 => ⟨⟨by omega, by omega⟩, ?_⟩⟩
      have hlr : (rngD 0 (1 + t).toNat).length = (1 + t).toNat := by unfold rngD; rw [List.length_map, List.length_range]
      refine forD_inv (fun rest σ M' => ∃ (items : List D) (m j : Nat) (o2 : MO) (k2 : Int) (x6 x7 x8 x9 x10 x11 x12 x13 x14 : Option D), j + rest.length = (1 + t).toNat ∧ σ = [some (.ref p), some (.tup rs), some (.int dp), some (.ref lf), some (.ref qi), some (.lst (ns.map .str)), x6, x7, x8, x9, x10, x11, x12, x13, x14] ∧ Bd M M' p lf qi o2 k2 items ∧ BodyOk ns dp items m ∧ (m : Int) + 2 * max k2 0 ≤ 2 * max k 0 ∧ k2 ≤ k - j ∧ DkO (B + 1 + j * (8 + 2 * sub dp)) o2) ?_ ?_ _ _ _ ⟨[], 0, 0, o1, k, none, none, none, none, none, none, none, none, none, by omega, rfl, hb0.setP hp hne, ⟨rfl, fun _ h => nomatch h⟩, by omega, by omega, hd1.mono (by omega)⟩
      · rintro σ M' ⟨items, m, j, o2, k2, x6, x7, x8, x9, x10, x11, x12, x13, x14, hj, rfl, hb, hbo, hm, hk2, hd2⟩
        have hj1 : j = (1 + t).toNat := by simpa using hj
        have hj4 : j ≤ 4 := by omega
        have hmul : j * (8 + 2 * sub dp) ≤ 4 * (8 + 2 * sub dp) := Nat.mul_le_mul_right _ hj4
        exact ⟨trivial, hkk _ _ ⟨items, m, o2, k2, x6, x7, x8, x9, x10, x11, x12, x13, x14, rfl, hb, hbo, hm, by omega, hd2.mono (by omega)⟩⟩
      · rintro e rest σ M' ⟨items, m, j, o2, k2, x6, x7, x8, x9, x10, x11, x12, x13, x14, hj, rfl, hb, hbo, hm, hk2, hd2⟩
        rw [List.length_cons] at hj
        have hj3 : j ≤ 3 := by omega
        have hmul : j * (8 + 2 * sub dp) ≤ 3 * (8 + 2 * sub dp) := Nat.mul_le_mul_right _ hj3
        have hmul2 : (j + 1) * (8 + 2 * sub dp) = j * (8 + 2 * sub dp) + (8 + 2 * sub dp) := Nat.succ_mul _ _
        generalize hCj : B + 1 + j * (8 + 2 * sub dp) = Cj at hd2
        have hbl := hbo.len
        refine ⟨trivial, _, rfl, fun κ hκ => ?_⟩
        refine seq_cut (fun σ M' => ∃ (kd : Int) (z : List Nat) (o3 : MO), z ∈ ns ∧ Bd M M' p lf qi o3 k2 items ∧ DkO (Cj + 2) o3 ∧ σ = [some (.ref p), some (.tup rs), some (.int dp), some (.ref lf), some (.ref qi), some (.lst (ns.map .str)), some e, some (.int kd), some (.str z), x9, x10, x11, x12, x13, x14]) ?_ fun kk2 hkk2 => ?_
        · rintro σ M' ⟨kd, z, o3, hz, hb3, hd3, rfl⟩
          refine seq_cut (fun σ M' => ∃ (mk : List Nat) (o4 : MO), (mk = q "n" ∨ mk = q "e") ∧ Bd M M' p lf qi o4 k2 items ∧ DkO (Cj + 3) o4 ∧ σ = [some (.ref p), some (.tup rs), some (.int dp), some (.ref lf), some (.ref qi), some (.lst (ns.map .str)), some e, some (.int kd), some (.str z), some (.str mk), x10, x11, x12, x13, x14]) ?_ fun kk3 hkk3 => ?_
          · rintro σ M' ⟨mk, o4, hmk, hb4, hd4, rfl⟩
            refine seq_cut (fun σ M' => Bd M M' p lf qi o4 (k2 - 1) items ∧ σ = [some (.ref p), some (.tup rs), some (.int dp), some (.ref lf), some (.ref qi), some (.lst (ns.map .str)), some e, some (.int kd), some (.str z), some (.str mk), x10, x11, x12, x13, x14]) ?_ fun kk4 hkk4 => ?_
            · rintro σ M' ⟨hb5, rfl⟩
              have hvl : vw M' (.ref lf) = .lst [.int (k2 - 1)] := vw_ref (hb5.atL hl)
              by_cases hneg : k2 - 1 < 0
              · refine seq_stop fun kk5 => ?_
                have hv : vw M' (.ref qi) = .lst items := vw_ref hb5.qi
                have hneg' : k2 < 1 := by omega
                simp [-Bool.exists_bool, hvl, hneg, hneg', hv]
                rw [hb5.g]
                exact h items m (k2 - 1) o4 hbo (by omega) (by omega) (hd4.mono (by omega))
              · have hneg' : ¬ k2 < 1 := by omega
                refine seq_skip ?_ fun kk5 hkk5 => by simpa [-Bool.exists_bool, hvl, hneg, hneg'] using hkk5
                have hnl : ns.length ≤ 4 := by rw [hn1]; exact hn3
                refine r_t5 (C := Cj + 3) hB hp hl hne hr hns hb5 hd4 (by omega) (by omega) (by omega) hz hmk (by omega) hnl (hdis z hz) fun it a o6 k6 C6 M6 y10 y11 hit ha hk6 hd6 hC6 hb6 => ?_
                exact hκ _ _ ⟨items ++ [it], m + a, j + 1, o6, k6, _, _, _, _, _, _, _, _, _, by omega, rfl, hb6, hbo.snoc hit, by omega, by omega, hd6.mono (by omega)⟩
            · have hvl : vw M' (.ref lf) = .lst [.int k2] := vw_ref (hb4.atL hl)
              simp [-Bool.exists_bool, hvl, ixN]
              exact ⟨_, hb4.atL hl, 0, ⟨by simp, rfl⟩, hkk4 _ _ ⟨hb4.setL hl, rfl⟩⟩
          · simp [-Bool.exists_bool]
            refine ⟨by decide, Cj + 2, o3, hb3.atP hp hne, hd3, by omega, fun x o4 hx hd4 => ?_⟩
            rcases hx with rfl | rfl | rfl
            · exact hkk3 _ _ ⟨q "n", o4, .inl rfl, hb3.setP hp hne, hd4, rfl⟩
            · exact hkk3 _ _ ⟨q "e", o4, .inr rfl, hb3.setP hp hne, hd4, rfl⟩
            · exact hkk3 _ _ ⟨q "n", o4, .inl rfl, hb3.setP hp hne, hd4, rfl⟩
        · have hnn : ns ≠ [] := fun e => by rw [e] at hn1; simp at hn1; omega
          simp [-Bool.exists_bool]
          refine ⟨Cj, o2, hb.atP hp hne, hd2, by omega, fun kd o3 _ _ hd3 => ⟨hnn, by rw [hn1]; omega, Cj + 1, o3, mu_same, hd3, by omega, fun x o4 z hz hzx hd4 => ⟨by decide, ?_⟩⟩⟩
          subst hzx
          exact hkk2 _ _ ⟨kd, z, o4, hz, (hb.setP hp hne).setP hp hne, hd4, rfl⟩
  · simp [-Bool.exists_bool]
    intro qi hqi p2 hp2
    have hq2 : p2 ≠ qi := fun e => by rw [e, mu_same] at hp2; cases hp2
    refine lcD_of (fun _ => true) (fun d => .str (nameOf d)) _ _ _ trivial (fun d hd => ?_) ?_ ?_
    · obtain ⟨n1, m1, rfl, _⟩ := readerB_inv (hn4 d hd)
      refine ⟨_, rfl, fun K hK => hK, fun _ K hK => ?_⟩
      simpa [nameOf] using hK
    · rw [sizeLine_eq, List.length_nil]; omega
    · rw [List.filter_eq_self.mpr (fun _ _ => rfl), me_mu hp2]
      have e : rs.map (fun d => D.str (nameOf d)) = ns.map .str := by
        rw [← hns]
        show _ = (rs.map nameOf).map D.str
        rw [List.map_map]
        rfl
      rw [e]
      exact hkk _ _ ⟨qi, hqi, rfl, rfl⟩
/-- bodies of fewer levels -/
def sp_upto (n : Nat) : SpD := fun ds M Q E => ∃ d, d < n ∧ sp_law_body d ds M Q E
theorem r_upto (n : Nat) (ds : List D) (M : Mm) (Φ : QD) (Ψ : XD) (h : sp_upto (n + 1) ds M Φ Ψ) : t_law_body sp_law_pick sp_law_one (sp_upto n) (endD M Φ) (startD n_law_body ds) M := by
  obtain ⟨d, hd, h⟩ := h
  exact r_law_body d _ (fun ds M Q E ⟨e, he, h2⟩ => ⟨e, by omega, h2⟩) ds M Φ Ψ h
theorem cost_le {d : Nat} (h : d < 4) : cost d ≤ 23400 := by
  match d, h with
  | 0, _ => decide
  | 1, _ => decide
  | 2, _ => decide
  | 3, _ => decide
/-- at most 20 steps asked -/
@[simp] def sp_law_program : SpD := fun ds M Q _ => match ds with
  | [.ref p, .int L] => 1 ≤ L ∧ L ≤ 20 ∧ ∃ B o, M p = some o ∧ DkO B o ∧ B + 1000000 < 2147483648 ∧ ∀ r b m o', readersD r = true → sizeB (namesD r) 8 b = some m → (m : Int) ≤ 2 * L → MkOk (marksB 8 b) → DkO (B + 1000000) o' → Q (.tup [r, b]) (mu M p o')
  | _ => False
theorem body_app {ns : List (List Nat)} {a b : List D} {m k : Nat} (h1 : sizeB ns 8 (.tup a) = some m) (h2 : sizeB ns 8 (.tup b) = some k) : sizeB ns 8 (.tup (a ++ b)) = some (m + k) := by
  show sumO ((a ++ b).map (sizeI ns (sizeB ns 7))) = _
  rw [List.map_append, sumO_app h1]
  have h2 : sumO (b.map (sizeI ns (sizeB ns 7))) = some k := h2
  rw [h2]
  rfl
theorem marks_app {a b : List D} (h1 : MkOk (marksB 8 (.tup a))) (h2 : MkOk (marksB 8 (.tup b))) : MkOk (marksB 8 (.tup (a ++ b))) := by
  intro x hx
  have hx : x ∈ ((a ++ b).map (marksI (marksB 7))).flatten := hx
  rw [List.map_append, List.flatten_append, List.mem_append] at hx
  rcases hx with z | z
  · exact h1 x z
  · exact h2 x z
theorem r_law_program (ds : List D) (M : Mm) (Φ : QD) (Ψ : XD) (h : sp_law_program ds M Φ Ψ) : t_law_program sp_law_readers (sp_upto 4) sp_law_pick (endD M Φ) (startD n_law_program ds) M := by
  unfold sp_law_program at h
  split at h
  case h_2 => exact h.elim
  rename_i p L
  obtain ⟨hL1, hL2, B, o, hMp, hd, hB, h⟩ := h
  have hp : M p ≠ none := by rw [hMp]; simp
  unfold t_law_program
  refine seq_cut (fun σ M' => ∃ (r : D) (lf : Addr) (o1 : MO), readersD r = true ∧ M lf = none ∧ σ = [some (.ref p), some (.int L), some r, some (.ref lf), some (.tup [])] ∧ M' = mu (mu M p o1) lf (.lst [.int L]) ∧ DkO (B + 6) o1) ?_ fun kk hkk => ?_
  · rintro σ M' ⟨r, lf, o1, hr, hlf, rfl, rfl, hd1⟩
    have hne : p ≠ lf := fun e => hp (by rw [e]; exact hlf)
    refine seq_cut (fun σ M' => ∃ (items : List D) (m : Nat) (o2 : MO), σ = [some (.ref p), some (.int L), some r, some (.ref lf), some (.tup items)] ∧ gc M M' = mu M p o2 ∧ sizeB (namesD r) 8 (.tup items) = some m ∧ (m : Int) ≤ 2 * L ∧ MkOk (marksB 8 (.tup items)) ∧ DkO (B + 1000000) o2) ?_ fun kk hkk => ?_
    · rintro σ M' ⟨items, m, o2, rfl, hg, hs, hm, hmk, hd2⟩
      simp [-Bool.exists_bool]
      refine ⟨by decide, ?_⟩
      rw [hg]
      exact h r (.tup items) m o2 hr hs hm hmk hd2
    · refine ⟨21, whN_inv (fun n σ M' => n ≤ 20 ∧ ∃ (items : List D) (m : Nat) (o2 : MO) (k2 : Int), σ = [some (.ref p), some (.int L), some r, some (.ref lf), some (.tup items)] ∧ gc M M' = mu M p o2 ∧ M' lf = some (.lst [.int k2]) ∧ k2 ≤ n ∧ sizeB (namesD r) 8 (.tup items) = some m ∧ (m : Int) + 2 * max k2 0 ≤ 2 * L ∧ MkOk (marksB 8 (.tup items)) ∧ DkO (B + 6 + (20 - n) * 23401) o2) ?_ 20 _ _ ⟨by omega, [], 0, o1, L, rfl, by rw [gc_new hlf, gc_old hp, gc_self], mu_same, by omega, rfl, by omega, (fun _ h => nomatch h), hd1.mono (by omega)⟩ 21 (by omega)⟩
      rintro n σ M' ⟨hn, items, m, o2, k2, rfl, hg, hM, hk2, hs, hm, hmk, hd2⟩ K htrue hfalse
      have hMp2 : M' p = some o2 := by
        have e := gc_at (M' := M') hp
        rw [← e, hg, mu_same]
      have hv : vw M' (.ref lf) = .lst [.int k2] := vw_ref hM
      have hend : K false M' := hfalse _ (hkk _ _ ⟨items, m, o2, rfl, hg, hs, by omega, hmk, hd2.mono (by omega)⟩)
      simp [-Bool.exists_bool, hv]
      by_cases hlt : items.length < 3
      · rw [if_pos (by omega)]
        by_cases hpos : 0 < k2
        · rw [decide_eq_true hpos]
          refine htrue M' fun κ hκ => ?_
          simp [-Bool.exists_bool]
          refine ⟨B + 6 + (20 - n) * 23401, o2, hMp2, hd2, by omega, fun d o3 hd0 hd1' hd3 => ?_⟩
          have hdn : d.toNat < 4 := by omega
          have hcl := cost_le hdn
          refine ⟨d.toNat, hdn, by omega, hr, hne, B + 6 + (20 - n) * 23401 + 1, o3, k2, mu_same, hd3, by omega, by rw [mu_ne (Ne.symm hne)]; exact hM, by omega, fun its m2 k3 o4 hbo hm2 hk3 hd4 => ?_⟩
          have hlen := hbo.len
          obtain ⟨hb1, hb2⟩ := hbo.body
          have hb3 := sizeB_up hb1 (show d.toNat + 1 ≤ 8 by omega)
          have hb4 := marksB_up hb1 (show d.toNat + 1 ≤ 8 by omega)
          refine ⟨by rw [sizeLine_eq]; omega, ?_⟩
          refine hκ (n - 1) (by omega) _ _ ⟨by omega, items ++ its, m + m2, o4, k3, rfl, ?_, mu_same, by omega, body_app hs hb3, by omega, marks_app hmk (by rw [hb4]; exact hb2), hd4.mono (by omega)⟩
          rw [gc_new hlf, gc_old hp, gc_old hp, hg, mu_mu, mu_mu]
        · rw [decide_eq_false hpos]
          exact hend
      · rw [if_neg (by omega)]
        exact hend
  · simp [-Bool.exists_bool]
    refine ⟨B, o, hMp, hd, by omega, fun rs o' hr hd' => ⟨by decide, fun lf hlf => hkk _ _ ⟨rs, lf, o', hr, ?_, rfl, rfl, hd'⟩⟩⟩
    have e : lf ≠ p := fun e => by rw [e, mu_same] at hlf; cases hlf
    rw [mu_ne e] at hlf
    exact hlf
end K01

set_option Elab.async false
set_option linter.all false
set_option maxRecDepth 100000
set_option maxHeartbeats 1000000
namespace K01
open PySem L2 DL
def sp_bent (n : Nat) : SpD := fun ds M Q E => ∃ d, d < n ∧ sp_law_bent d ds M Q E
mutual
theorem eqC_refl : ∀ (d : D) (n : Nat), stdB d = true → dep d ≤ n → eqC d n d = some true
  | .non, n, _, _ => by cases n <;> rfl
  | .bl b, n, _, _ => by simp
  | .int i, n, _, _ => by simp
  | .str s, n, _, _ => by simp
  | .ref _, _, h, _ => by simp [stdB] at h
  | .ty _, _, h, _ => by simp [stdB] at h
  | .tup ds, 0, _, h => by rw [dep] at h; omega
  | .lst ds, 0, _, h => by rw [dep] at h; omega
  | .tup ds, n + 1, hs, h => by
    rw [dep] at h
    rw [eqC, eqCs_refl ds n (by rw [stdB] at hs; exact hs) (by omega)]
    simp
  | .lst ds, n + 1, hs, h => by
    rw [dep] at h
    rw [eqC, if_pos rfl]
    exact eqCs_refl ds n (by rw [stdB] at hs; exact hs) (by omega)
theorem eqCs_refl : ∀ (ds : List D) (n : Nat), stdsB ds = true → deps ds ≤ n → eqCs ds n ds = some true
  | [], _, _, _ => by rw [eqCs]
  | d :: ds, n, hs, h => by
    rw [stdsB, Bool.and_eq_true] at hs
    rw [deps] at h
    rw [eqCs, eqC_refl d n hs.1 (by omega), eqCs_refl ds n hs.2 (by omega)]
    rfl
end
/-- the steps of a body are plain and shallow -/
theorem steps_ok {ns : List (List Nat)} : ∀ (n : Nat) (b : D) (m : Nat), sizeB ns n b = some m → ∀ x ∈ stepsB n b, stdB x = true ∧ dep x ≤ 2 * n
  | 0, b, m, h => by cases h
  | n + 1, b, m, h => by
    cases b with
    | tup ds =>
      have hL := limB _ _ _ h
      have h : sumO (ds.map (sizeI ns (sizeB ns n))) = some m := h
      intro x hx
      have hx : x ∈ (ds.map (stepsI (stepsB n))).flatten := hx
      obtain ⟨l1, hl1, hx1⟩ := List.mem_flatten.mp hx
      obtain ⟨it, hit, rfl⟩ := List.mem_map.mp hl1
      obtain ⟨a, ha, _⟩ := sumO_inv h it hit
      have hI := limI (fun d' a' e' => limB n d' a' e') ha
      obtain ⟨w, l, rfl, hv⟩ := sizeI_inv ha
      have hx1 : x ∈ D.tup ((D.str w :: l).take ((D.str w :: l).length - (innerL (.str w :: l)).length)) :: ((innerL (.str w :: l)).map (stepsB n)).flatten := hx1
      rcases List.mem_cons.mp hx1 with e | e
      · subst e
        obtain ⟨k1, k2, _⟩ := hI
        refine ⟨std_tup.mpr fun d hd => std_tup.mp k1 d (List.mem_of_mem_take hd), ?_⟩
        rw [dep] at k2 ⊢
        have := deps_le.mpr fun d (hd : d ∈ (D.str w :: l).take ((D.str w :: l).length - (innerL (.str w :: l)).length)) => deps_le.mp (Nat.le_refl (deps (.str w :: l))) d (List.mem_of_mem_take hd)
        omega
      · obtain ⟨l2, hl2, hx2⟩ := List.mem_flatten.mp e
        obtain ⟨pt, hpt, rfl⟩ := List.mem_map.mp hl2
        rcases hv with ⟨_, _, m', h4, _⟩ | ⟨h1, _⟩
        · obtain ⟨a', ha', _⟩ := sumO_inv h4 pt hpt
          have := steps_ok n pt a' ha' x hx2
          exact ⟨this.1, by omega⟩
        · rw [simple_inner h1] at hpt
          cases hpt
    | _ => cases h
theorem steps_eq {ns : List (List Nat)} {b : D} {m : Nat} (h : sizeB ns 8 b = some m) : eqC (.lst (stepsB 8 b)) 64 (.lst (stepsB 8 b)) = some true := by
  refine eqC_refl _ _ (std_lst.mpr fun x hx => (steps_ok 8 b m h x hx).1) ?_
  rw [dep]
  have := deps_le.mpr fun x hx => (steps_ok 8 b m h x hx).2
  omega
theorem Ok.up {n m n' m' : Nat} {d : D} (h : Ok n m d) (h1 : n ≤ n') (h2 : m ≤ m') : Ok n' m' d := ⟨h.1, Nat.le_trans h.2.1 h1, Nat.le_trans h.2.2 h2⟩
/-- the program by chance -/
theorem prog_ok {r b : D} {m : Nat} (hr : readersD r = true) (hs : sizeB (namesD r) 8 b = some m) (hm : m ≤ 40) (hk : MkOk (marksB 8 b)) : progD (.tup [r, b]) = true ∧ Ok 17 300 (.tup [r, b]) := by
  constructor
  · show progB r b = true
    unfold progB
    rw [hr, hs]
    show (true && (decide (m ≤ 40) && decide (cntM (marksB 8 b) ≤ 3))) = true
    have := cnt_two hk
    rw [decide_eq_true (by omega), decide_eq_true (by omega)]
    rfl
  · obtain ⟨k1, k2⟩ := readers_std hr
    obtain ⟨h1, h2, h3⟩ := limB _ _ _ hs
    have hdr : dep r ≤ 2 := by
      obtain ⟨rs, rfl, _, _, h3, _⟩ := readersD_inv hr
      rw [dep]
      have : deps rs ≤ 1 := deps_le.mpr fun d hd => by
        obtain ⟨n, m, rfl, _⟩ := readerB_inv (h3 d hd)
        exact Nat.le_refl _
      omega
    refine ⟨std_tup.mpr fun d hd => ?_, ?_, ?_⟩
    · rcases List.mem_cons.mp hd with e | e
      · rw [e]; exact k1
      · rw [List.mem_singleton.mp e]; exact h1
    · rw [dep, deps, deps, deps]; omega
    · rw [wt, wts, wts, wts]; omega
end K01

set_option Elab.async false
set_option linter.all false
set_option maxRecDepth 100000
set_option maxHeartbeats 1000000
/-! TXL: whole programs as texts: readings. -/
namespace K01
open PySem L2 DL
open TL (joinL spl pre spl_part1 spl_last1 spl_join numL)
/-- a program as a tree -/
def PrOk (rs : Rds) (b : List It) : Prop := RdsOk rs ∧ bOk (nms rs) b ∧ bH b ≤ 8 ∧ bN b ≤ 40
def prD (rs : Rds) (b : List It) : D := .tup [rdD rs, tb b]
theorem prog_tree {d : D} (h : progD d = true) : ∃ rs b, d = prD rs b ∧ PrOk rs b := by
  obtain ⟨r, b, m, rfl, hr, hs, hm, _⟩ := progD_inv h
  obtain ⟨rs, rfl, h1, h2⟩ := readers_rds hr
  obtain ⟨t, rfl, h3, h4, h5⟩ := sizeB_it hs
  rw [h2] at h3
  exact ⟨rs, t, rfl, h1, h3, h4, by omega⟩
@[simp] def sp_text_of : SpD := fun ds M Q _ => ∃ rs b, ds = [prD rs b] ∧ PrOk rs b ∧ Q (.str (prT rs b)) M
theorem r_text_of (ds : List D) (M : Mm) (Φ : QD) (Ψ : XD) (h : sp_text_of ds M Φ Ψ) : t_text_of (sp_body_text 8) (endD M Φ) (startD n_text_of ds) M := by
  obtain ⟨rs, b, rfl, ⟨hr, hb, hH, hN⟩, h⟩ := h
  simp [t_text_of, prD, rdD, -Bool.exists_bool, -sp_body_text]
  refine ⟨rfl, fun p hp => ?_⟩
  have e : ∀ M2 : Mm, sp_body_text 8 [tb b] M2 = fun Q E => sp_body_text 8 [tb b] M2 Q E := fun _ => rfl
  refine lcD_typed (fun p : List Nat × List Nat => D.tup [.str p.1, .str p.2]) (fun p => .str (joinL [32] [p.1, p.2])) rs _ (fun p hp => ⟨_, rfl, fun K hK => ?_⟩) (by have := hr.2.1; rw [List.length_nil, sizeLine_eq]; omega) ?_
  · have h1 := lab_len (hr.2.2 p hp).1
    have h2 : p.2.length ≤ 5 := by rcases (hr.2.2 p hp).2 with e | e <;> rw [e] <;> decide
    simp [-Bool.exists_bool]
    rw [show (q " ").length = 1 from rfl, sizeLine_eq]
    exact ⟨by omega, by omega, hK⟩
  · refine ⟨_, strs_map (fun p : List Nat × List Nat => joinL [32] [p.1, p.2]) rs, ⟨14, fun w hw => ?_, ?_⟩, ?_⟩
    · obtain ⟨p, hp, rfl⟩ := List.mem_map.mp hw
      have h1 := lab_len (hr.2.2 p hp).1
      have h2 : p.2.length ≤ 5 := by rcases (hr.2.2 p hp).2 with e | e <;> rw [e] <;> decide
      simp [joinL]
      omega
    · rw [List.length_map, show (q ", ").length = 2 from rfl]
      have := hr.2.1
      omega
    · have l1 := rdT_len hr
      have l2 := bT_len hr.lab hb
      have l1' : (joinL (q ", ") (rs.map fun p => joinL [32] [p.1, p.2])).length ≤ 64 := l1
      rw [show (q "\n").length = 1 from rfl, me_mu hp, sizeLine_eq]
      refine ⟨by omega, ?_⟩
      refine ⟨nms rs, b, rfl, hr.lab, hb, hH, hN, ?_, ?_⟩
      · simp only [List.length_append, show (q "\n").length = 1 from rfl]
        omega
      · simp only [gcR_str, gc_self]
        rw [List.append_assoc]
        exact h
theorem r_law_item_text (n : Nat) (ds : List D) (M : Mm) (Φ : QD) (Ψ : XD) (h : sp_item_text n ds M Φ Ψ) : t_law_item_text sp_law_inner (sp_body_text n) (endD M Φ) (startD n_law_item_text ds) M := by
  obtain ⟨ns, i, rfl, hn, hi, hH, hN, h⟩ := h
  obtain ⟨w, l, hw⟩ := itHd_str i
  have e0 : itD i = .tup (.str w :: (l ++ (itPs i).map tb)) := by rw [itD_eq, hw]; rfl
  have e1 : innerL (.str w :: (l ++ (itPs i).map tb)) = (itPs i).map tb := by have := inner_it i; rw [hw] at this; exact this
  have e2 : cutD (.str w :: (l ++ (itPs i).map tb)) none (some ((l.length : Int) + (itPs i).length + 1 - (itPs i).length)) = itHd i := by
    rw [show ((l.length : Int) + (itPs i).length + 1 - (itPs i).length) = ((l.length + 1 : Nat) : Int) by omega, cutD_to, hw]
    show (D.str w :: l ++ (itPs i).map tb).take (D.str w :: l).length = _
    rw [List.take_left]
  simp [t_law_item_text, -Bool.exists_bool, e0, e1, e2, -List.map_append, -tdIf]
  refine ⟨tyD_str, fun p hp => ?_⟩
  have hl := hd_len i
  have eid : (itHd i).map id = itHd i := List.map_id _
  rw [← eid]
  refine lcD_typed id (fun d => .str (wordS d)) _ _ (fun d hd => ⟨_, rfl, fun K hK => ?_⟩) (by rw [List.length_nil, sizeLine_eq]; omega) ?_
  · show tdIf (tdTest (tdOp dNe (tdVar 4) (tdC (.str (q ""))))) (tdCB dStrC (tdCons (tdVar 4) tdNil)) (tdC (.str (q "end"))) _ _ K
    rcases hd_words hi d hd with ⟨s, rfl⟩ | ⟨k, rfl, hk⟩
    · simp [-Bool.exists_bool]
      have hK : K (.str (if s = [] then q "end" else s)) _ := hK
      by_cases e : s = []
      · subst e; exact hK
      · rw [if_neg e] at hK
        rw [if_neg (show ¬ s = q "" from e)]
        exact hK
    · simp [-Bool.exists_bool]
      exact ⟨by omega, hK⟩
  refine ⟨_, strs_map wordS _, ⟨9, word_len hn hi, by rw [List.length_map]; simp [q]; omega⟩, ?_⟩
  have eT := itT_eq hn hi
  have lT := itT_len hn hi
  rw [eT] at h lT
  rw [show q " " = [32] from rfl]
  rw [List.length_append] at lT
  by_cases h0 : itPs i = []
  · simp only [h0, if_true, gcR_str, gc_me hp, gc_new hp, gc_self]
    rw [h0, show bodT [] = [] from rfl, List.append_nil] at h
    exact h
  · simp only [h0, if_false]
    simp only [h0, bodT, if_false, List.length_append] at lT h
    have q2 : (q " (").length = 2 := rfl
    have q1 : (q ")").length = 1 := rfl
    rw [q2, q1] at lT
    refine ⟨by rw [q2, sizeLine_eq]; omega, tyD_str, fun p2 hp2 => ?_⟩
    rw [me_mu hp] at hp2 ⊢
    refine lcD_typed tb (fun b => .str (bT b)) _ _ (fun b hb => ⟨_, rfl, fun K hK => ?_⟩) (by have := ps_len i; rw [List.length_nil, sizeLine_eq]; omega) ?_
    · refine ⟨tb b, rfl, ?_⟩
      exact ⟨ns, b, rfl, hn, parts_ok hi b hb, Nat.le_trans (parts_H b hb) hH, by have := parts_N b hb; omega, hK⟩
    · have hb : ∀ w ∈ (itPs i).map bT, w.length ≤ 2000 := fun w hw => by
        obtain ⟨b, hb, rfl⟩ := List.mem_map.mp hw
        have h1 := bT_len hn (parts_ok hi b hb)
        have h2 := parts_N b hb
        omega
      refine ⟨_, strs_map bT _, ⟨2000, hb, by have := ps_len i; rw [List.length_map]; simp [q]; omega⟩, ?_⟩
      rw [sizeLine_eq]
      simp only [gcR_str, gc_me hp2, gc_new hp2, gc_self, q2, q1]
      exact ⟨by omega, by omega, h⟩
theorem r_law_body_text (n : Nat) (ds : List D) (M : Mm) (Φ : QD) (Ψ : XD) (h : sp_body_text (n + 1) ds M Φ Ψ) : t_law_body_text (sp_item_text n) (endD M Φ) (startD n_law_body_text ds) M := r_body_text n ds M Φ Ψ h
theorem r_law_text (ds : List D) (M : Mm) (Φ : QD) (Ψ : XD) (h : sp_text_of ds M Φ Ψ) : t_law_text (sp_body_text 8) (endD M Φ) (startD n_law_text ds) M := r_text_of ds M Φ Ψ h
end K01

set_option Elab.async false
set_option linter.all false
set_option maxRecDepth 100000
set_option maxHeartbeats 1000000
/-! CELLS: the loop over the cells of a script. -/
namespace K01
open PySem L2 DL
theorem cells_loop {n : Nat} {body : TSd} {Δ : Ed} {σ : Sg} {M : Mm} (ins : List Int) (S : Sg → Mm → Prop) (hl : ins.length ≤ 63) (h0 : σ[0]? = some (some (.lst (ins.map .int)))) (hs : S σ M)
    (hb : ∀ (i : Int) (σ : Sg) (M : Mm), S σ M → ∀ κ : Sg → Mm → Prop, (∀ σ2 M2, S σ2 M2 → κ σ2 M2) → body ⟨κ, Δ.rt, Δ.nx, κ⟩ (σ.set 1 (some (.int i))) M) (hk : ∀ σ M, S σ M → Δ.nx σ M) :
    tdFor (tdSeqI (tdSl (tdOp dAdd (tdLst (tdCons (tdC (.int 0)) tdNil)) (tdVar 0)) tdNoPart (tdPart (tdC (.int (n : Int)))))) (.one 1) body Δ σ M := by
  have e0 : cutD (D.int 0 :: ins.map D.int) none (some (n : Int)) = ((0 :: ins).take n).map D.int := by
    rw [cutD_to, ← List.map_cons (f := D.int), ← List.map_take]
  simp [-Bool.exists_bool, e0, h0]
  refine ⟨by decide, by rw [sizeLine_eq]; omega, ?_⟩
  refine forD_inv (fun rest σ M' => (∀ d ∈ rest, ∃ i, d = .int i) ∧ S σ M') ?_ ?_ _ _ _ ⟨?_, hs⟩
  · rintro σ M' ⟨_, hσ⟩
    exact ⟨trivial, hk _ _ hσ⟩
  · rintro d rest σ M' ⟨hd, hσ⟩
    obtain ⟨i, rfl⟩ := hd d List.mem_cons_self
    refine ⟨trivial, _, rfl, fun κ hκ => ?_⟩
    exact hb i σ M' hσ κ fun σ2 M2 h2 => hκ _ _ ⟨fun d hd' => hd d (List.mem_cons_of_mem _ hd'), h2⟩
  · intro d hd
    rcases List.mem_cons.mp (List.mem_of_mem_take hd) with e | e
    · exact ⟨0, e⟩
    · obtain ⟨i, _, hi⟩ := List.mem_map.mp e
      exact ⟨i, hi.symm⟩
end K01

set_option Elab.async false
set_option linter.all false
set_option maxRecDepth 100000
set_option maxHeartbeats 1000000
/-! k16: read_program of any text. -/
namespace K01
open PySem L2 DL
open TL (joinL spl pre spl_part1 spl_last1 spl_join numL)
theorem headP_std (t : List Nat) : ∀ d ∈ headP t, stdB d = true := by
  intro d hd
  unfold headP at hd
  split at hd
  · rename_i w ws e
    split at hd
    · obtain ⟨x, _, rfl⟩ := List.mem_map.mp hd
      unfold numW
      split
      · rfl
      · split
        · rfl
        · split <;> rfl
    · split at hd
      · rcases List.mem_cons.mp hd with rfl | hd
        · rfl
        · rcases List.mem_cons.mp hd with rfl | hd
          · rfl
          · obtain rfl := List.mem_singleton.mp hd
            rfl
      · obtain ⟨x, _, rfl⟩ := List.mem_map.mp hd
        rfl
  · cases hd
theorem itemP_std {pb : List Nat → D} (h : ∀ t, stdB (pb t) = true) (t : List Nat) : stdB (itemP pb t) = true := by
  unfold itemP
  split
  · exact std_tup.mpr (headP_std t)
  · refine std_tup.mpr fun d hd => ?_
    rcases List.mem_append.mp hd with hd | hd
    · exact headP_std _ d hd
    · obtain ⟨x, _, rfl⟩ := List.mem_map.mp hd
      exact h x
theorem bodyP_std : ∀ (n : Nat) (t : List Nat), stdB (bodyP n t) = true
  | 0, _ => rfl
  | n + 1, t => by
    unfold bodyP
    split
    · rfl
    · refine std_tup.mpr fun d hd => ?_
      obtain ⟨x, _, rfl⟩ := List.mem_map.mp hd
      exact itemP_std (bodyP_std n) x
theorem rdsP_std (l : List (List Nat)) : stdB (.tup (l.map fun p => .tup ((spl [32] 0 [] p).map .str))) = true := by
  refine std_tup.mpr fun d hd => ?_
  obtain ⟨x, _, rfl⟩ := List.mem_map.mp hd
  refine std_tup.mpr fun d hd => ?_
  obtain ⟨y, _, rfl⟩ := List.mem_map.mp hd
  rfl
theorem prog_lim {d : D} (h : progD d = true) : Ok 17 300 d := by
  obtain ⟨r, b, m, rfl, h1, h2, h3, h4⟩ := progD_inv h
  obtain ⟨k1, k2⟩ := readers_std h1
  obtain ⟨l1, l2, l3⟩ := limB _ _ _ h2
  have hdr : dep r ≤ 2 := by
    obtain ⟨rs, rfl, _, _, h3, _⟩ := readersD_inv h1
    rw [dep]
    have : deps rs ≤ 1 := deps_le.mpr fun d hd => by
      obtain ⟨n, m, rfl, _⟩ := readerB_inv (h3 d hd)
      exact Nat.le_refl _
    omega
  refine ⟨std_tup.mpr fun d hd => ?_, ?_, ?_⟩
  · rcases List.mem_cons.mp hd with e | e
    · rw [e]; exact k1
    · rw [List.mem_singleton.mp e]; exact l1
  · rw [dep, deps, deps, deps]; omega
  · rw [wt, wts, wts, wts]; omega
/-- t is the text of this program -/
def Reads (t : List Nat) (rs : Rds) (b : List It) : Prop := t = prT rs b ∧ PrOk rs b ∧ progD (prD rs b) = true
@[simp] def sp_read_program : SpD := fun ds M Q E => match ds with
  | [.str t] => t.length ≤ 1000000 ∧ (∀ rs b, Reads t rs b → Q (prD rs b) M) ∧ ((¬ ∃ rs b, Reads t rs b) → E "InvalidText" none M)
  | [d] => stdB d = true ∧ E "InvalidText" none M
  | _ => False
theorem r_read_text (t : List Nat) (M : Mm) (Φ : QD) (Ψ : XD) (h : sp_read_program [.str t] M Φ Ψ) : t_read_program (sp_body_in 8) sp_is_program sp_text_of (xsd Ψ) (endD M Φ) (startD n_read_program [.str t]) M := by
  obtain ⟨hl, hq, hx⟩ := h
  obtain ⟨w, ws, es, hws⟩ := spl_ne [10] t 0 []
  have es : spl (q "\n") 0 [] t = w :: ws := es
  have hlen := spl_len (q "\n") t 0 []
  rw [es] at hlen
  obtain ⟨rw, rws, er, hrw⟩ := spl_ne (q ", ") w 0 []
  have hwl : w.length ≤ 1000000 := by have := hlen w List.mem_cons_self; simp at this; omega
  have hg : (w :: ws).getLast? = some ((w :: ws).getLast (by simp)) := by first | exact List.getLast?_eq_some_getLast (by simp) | exact List.getLast?_eq_getLast (by simp)
  have hgD : (w :: ws).getLastD [] = (w :: ws).getLast (by simp) := by rw [List.getLastD_eq_getLast?, hg]; rfl
  have hll : ((w :: ws).getLastD []).length ≤ 1000000 := by
    have := hlen ((w :: ws).getLastD []) (by rw [hgD]; exact List.getLast_mem _)
    rw [List.length_nil] at this
    omega
  let RD : D := .tup ((spl (q ", ") 0 [] w).map fun p => .tup ((spl [32] 0 [] p).map .str))
  let BD : D := bodyP 8 ((w :: ws).getLastD [])
  have eP : progP t = .tup [RD, BD] := by unfold progP; rw [show spl [10] 0 [] t = w :: ws from es]; rfl
  have sP : stdB (.tup [RD, BD]) = true := std_tup.mpr fun d hd => by
    rcases List.mem_cons.mp hd with rfl | hd
    · exact rdsP_std _
    · obtain rfl := List.mem_singleton.mp hd
      exact bodyP_std _ _
  have hRD : RD = .tup ((spl (q ", ") 0 [] w).map fun p => .tup ((spl [32] 0 [] p).map .str)) := rfl
  have hBD : BD = bodyP 8 ((w :: ws).getLastD []) := rfl
  clear_value RD BD
  unfold t_read_program
  refine seq_skip ?_ fun kk hkk => ?_
  · refine seq_to [some (.str t), some (.lst ((w :: ws).map .str)), none, none, none] M ?_ fun kk hkk => ?_
    · refine seq_to [some (.str t), some (.lst ((w :: ws).map .str)), some RD, none, none] M ?_ fun kk hkk => ?_
      · refine seq_to [some (.str t), some (.lst ((w :: ws).map .str)), some RD, some (.tup [RD, BD]), none] M ?_ fun kk hkk => ?_
        · by_cases hE : ∃ rs b, Reads t rs b
          · obtain ⟨rs, b, ht, ho, hp⟩ := hE
            have e2 : D.tup [RD, BD] = prD rs b := by rw [← eP, ht]; exact prog_back ho.1 ho.2.1 ho.2.2.1
            have e3 : ws.length = 1 := by
              have := lines_of ho.1 ho.2.1
              rw [← ht, show spl [10] 0 [] t = w :: ws from es] at this
              injection this with _ h2
              rw [h2]; rfl
            rw [e2]
            refine seq_skip ?_ fun kk hkk => ?_
            · simp [-Bool.exists_bool]
              have := hq rs b ⟨ht, ho, hp⟩
              rw [gcR_std (by rw [← e2]; exact sP), gc_self]
              exact this
            · simp [-Bool.exists_bool]
              rw [if_pos (by omega)]
              refine ⟨by rw [← e2]; exact sP, ?_⟩
              rw [if_pos hp]
              refine ⟨rs, b, rfl, ho, ?_⟩
              rw [if_pos ht.symm]
              exact hkk
          · have hX := hx hE
            refine seq_stop fun kk => ?_
            simp [-Bool.exists_bool]
            split
            · refine ⟨sP, ?_⟩
              split
              · rename_i hp
                obtain ⟨rs, b, e2, ho⟩ := prog_tree hp
                refine ⟨rs, b, e2, ho, ?_⟩
                rw [if_neg fun e => hE ⟨rs, b, e.symm, ho, by rw [← e2]; exact hp⟩]
                exact hX
              · exact hX
            · exact hX
        · simp [-Bool.exists_bool, atI_last]
          refine ⟨.str ((w :: ws).getLastD []), ?_, _, rfl, hll, by decide, ?_⟩
          · rw [← List.map_cons (f := D.str), List.getLast?_map, hg, hgD]
            rfl
          · rw [← hBD]
            exact hkk
      · simp [-Bool.exists_bool]
        refine ⟨rfl, by decide, by decide, by rw [sizeLine_eq]; omega, fun p hp => ?_⟩
        refine lcD_typed D.str (fun p => .tup ((spl [32] 0 [] p).map .str)) _ _ (fun p hp => ⟨_, rfl, fun K hK => ?_⟩) (by rw [List.length_nil, er, List.length_cons, sizeLine_eq]; omega) ?_
        · have := spl_len (q ", ") w 0 [] p hp
          rw [List.length_nil] at this
          simp [-Bool.exists_bool]
          exact ⟨rfl, by decide, by decide, by rw [sizeLine_eq]; omega, hK⟩
        · rw [me_mu hp, List.nil_append, ← hRD]
          exact hkk
    · simp [-Bool.exists_bool, es]
      exact ⟨rfl, by decide, by decide, by rw [sizeLine_eq]; omega, hkk⟩
  · simp [-Bool.exists_bool]
    exact hkk
/-- what is read of what -/
theorem r_read_program (ds : List D) (M : Mm) (Φ : QD) (Ψ : XD) (h : sp_read_program ds M Φ Ψ) : t_read_program (sp_body_in 8) sp_is_program sp_text_of (xsd Ψ) (endD M Φ) (startD n_read_program ds) M := by
  match ds, h with
  | [.str t], h => exact r_read_text t M Φ Ψ h
  | [.non], h => exact seq_stop fun kk => by simp [-Bool.exists_bool]; exact h.2
  | [.bl _], h => exact seq_stop fun kk => by simp [-Bool.exists_bool]; exact h.2
  | [.int _], h => exact seq_stop fun kk => by simp [-Bool.exists_bool]; exact h.2
  | [.tup _], h => exact seq_stop fun kk => by simp [-Bool.exists_bool]; exact h.2
  | [.lst _], h => exact seq_stop fun kk => by simp [-Bool.exists_bool]; exact h.2
  | [.ref _], h => exact absurd h.1 (by simp [stdB])
  | [.ty _], h => exact absurd h.1 (by simp [stdB])
/-- what _law_read says of a value -/
@[simp] def sp_law_read : SpD := fun ds M Q _ => match ds with
  | [.str t] => t.length ≤ 1000000 ∧ (∀ rs b, Reads t rs b → Q (prD rs b) M) ∧ ((¬ ∃ rs b, Reads t rs b) → Q (.str (q "refused")) M)
  | [d] => stdB d = true ∧ Q (.str (q "refused")) M
  | _ => False
theorem r_law_read (ds : List D) (M : Mm) (Φ : QD) (Ψ : XD) (h : sp_law_read ds M Φ Ψ) : t_law_read sp_read_program (endD M Φ) (startD n_law_read ds) M := by
  match ds, h with
  | [.str t], h =>
    obtain ⟨h1, h2, h3⟩ := h
    simp [t_law_read, -Bool.exists_bool]
    refine ⟨h1, fun rs b hr => ?_, fun hn => ⟨true, rfl, ?_⟩⟩
    · rw [gcR_std (prog_lim hr.2.2).1, gc_self]
      exact h2 rs b hr
    · rw [if_pos rfl]
      exact h3 (by rintro ⟨rs, b, hr⟩; exact hn rs b hr)
  | [.non], h =>
    simp [t_law_read, -Bool.exists_bool]
    exact ⟨h.1, true, rfl, by rw [if_pos rfl]; exact h.2⟩
  | [.bl _], h =>
    simp [t_law_read, -Bool.exists_bool]
    exact ⟨h.1, true, rfl, by rw [if_pos rfl]; exact h.2⟩
  | [.int _], h =>
    simp [t_law_read, -Bool.exists_bool]
    exact ⟨h.1, true, rfl, by rw [if_pos rfl]; exact h.2⟩
  | [.tup _], h =>
    simp [t_law_read, -Bool.exists_bool]
    exact ⟨h.1, true, rfl, by rw [if_pos rfl]; exact h.2⟩
  | [.lst _], h =>
    simp [t_law_read, -Bool.exists_bool]
    exact ⟨h.1, true, rfl, by rw [if_pos rfl]; exact h.2⟩
  | [.ref _], h => exact absurd h.1 (by simp [stdB])
  | [.ty _], h => exact absurd h.1 (by simp [stdB])
/-- _law_one, of a text too -/
def sp_law_oneX : SpD := fun ds M Q E => sp_law_one ds M Q E ∨ ∃ p t B o, ds = [.ref p, .str t] ∧ t ≠ [] ∧ t.length < 1073741824 ∧ M p = some o ∧ DkO B o ∧ B < 2147483648 ∧ ∀ c o', c ∈ t → DkO (B + 1) o' → Q (.str [c]) (mu M p o')
theorem r_law_oneX (ds : List D) (M : Mm) (Φ : QD) (Ψ : XD) (h : sp_law_oneX ds M Φ Ψ) : t_law_one sp_law_pick (endD M Φ) (startD n_law_one ds) M := by
  rcases h with h | ⟨p, t, B, o, rfl, ht, htl, hp, hd, hB, h⟩
  · exact r_law_one ds M Φ Ψ h
  have hpn : M p ≠ none := by rw [hp]; simp
  have egc : ∀ o, gc M (mu M p o) = mu M p o := fun o => by rw [gc_old hpn, gc_self]
  have hpos := List.length_pos_iff.mpr ht
  simp [t_law_one, -Bool.exists_bool]
  refine ⟨hpos, by omega, B, o, hp, hd, hB, fun r o' h0 h1 hd' => ?_⟩
  have e : r = ((r.toNat : Nat) : Int) := by omega
  have hl : r.toNat < t.length := by omega
  rw [e, DL.atI_nat, List.getElem?_eq_getElem hl]
  refine ⟨_, rfl, ?_⟩
  rw [egc]
  exact h _ _ (List.getElem_mem hl) hd'
/-- a text spoilt: some text, not much longer -/
@[simp] def sp_law_spoilt : SpD := fun ds M Q _ => ∃ p t B o, ds = [.ref p, .str t] ∧ t.length ≤ 900000 ∧ M p = some o ∧ DkO B o ∧ B + 3 < 2147483648 ∧ ∀ t' o', t'.length ≤ t.length + 4 → DkO (B + 3) o' → Q (.str t') (mu M p o')
theorem r_law_spoilt (ds : List D) (M : Mm) (Φ : QD) (Ψ : XD) (h : sp_law_spoilt ds M Φ Ψ) : t_law_spoilt sp_law_pick sp_law_oneX (endD M Φ) (startD n_law_spoilt ds) M := by
  obtain ⟨p, t, B, o, rfl, htl, hp, hd, hB, h⟩ := h
  have hpn : M p ≠ none := by rw [hp]; simp
  have egc : ∀ o, gc M (mu M p o) = mu M p o := fun o => by rw [gc_old hpn, gc_self]
  unfold t_law_spoilt
  refine seq_cut (fun σ M' => ∃ (a : Nat) (o1 : MO), a ≤ t.length ∧ DkO (B + 1) o1 ∧ M' = mu M p o1 ∧ σ = [some (.ref p), some (.str t), some (.int a), some (.str (q " ,;|()\nanb104")), none]) ?_ fun kk hkk => ?_
  · rintro σ M' ⟨a, o1, ha, hd1, rfl, rfl⟩
    refine seq_cut (fun σ M' => ∃ (w : Int) (o2 : MO), DkO (B + 2) o2 ∧ M' = mu M p o2 ∧ σ = [some (.ref p), some (.str t), some (.int a), some (.str (q " ,;|()\nanb104")), some (.int w)]) ?_ fun kk hkk => ?_
    · rintro σ M' ⟨w, o2, hd2, rfl, rfl⟩
      have fin : ∀ (t' : List Nat) (o' : MO), t'.length ≤ t.length + 4 → DkO (B + 3) o' → Φ (.str t') (gc M (mu M p o')) := fun t' o' l d => by rw [egc]; exact h t' o' l d
      have ea : ((a : Int) + 1) = ((a + 1 : Nat) : Int) := by omega
      have hsg : ∀ (Q : QD) E, (∀ c o', DkO (B + 3) o' → Q (.str [c]) (mu M p o')) → sp_law_oneX [.ref p, .str (q " ,;|()\nanb104")] (mu M p o2) Q E := fun Q E hQ =>
        .inr ⟨p, _, B + 2, o2, rfl, by decide, by decide, mu_same, hd2, by omega, fun c o' _ hd' => by rw [mu_mu]; exact hQ c o' hd'⟩
      refine seq_skip ?_ fun kk hkk => ?_
      · refine seq_skip ?_ fun kk hkk => ?_
        · refine seq_skip ?_ fun kk hkk => ?_
          · simp [-Bool.exists_bool, -sp_law_pick, -sp_law_one]
            have hb : (q "back").length = 4 := by decide
            refine ⟨by rw [hb]; omega, .inl ⟨B + 2, o2, by simp, by simp, mu_same, hd2, by omega, fun x o' hx hd' => ?_⟩⟩
            rw [mu_mu]
            have hx : ∃ y, x = .str y ∧ ¬ y = q "back" := by
              simp only [List.mem_cons, List.not_mem_nil, or_false] at hx
              rcases hx with rfl | rfl | rfl | rfl | rfl <;> exact ⟨_, rfl, by decide⟩
            obtain ⟨y, rfl, hy⟩ := hx
            refine ⟨y, rfl, hy, fun x' hx' => ?_⟩
            rw [hb] at hx'
            rw [cutD_to, sizeLine_eq]
            exact ⟨by rw [List.length_take]; omega, fin _ _ (by rw [List.length_append, List.length_take]; omega) hd'⟩
          · simp [-Bool.exists_bool, -sp_law_pick, -sp_law_one]
            split
            · refine hsg _ _ fun c o' hd' => ?_
              rw [vw_str, ea, cutD_from, cutD_to, sizeLine_eq]
              exact ⟨by rw [List.length_take, List.length_singleton]; omega, by rw [List.length_take, List.length_singleton, List.length_drop]; omega, fin _ _ (by simp only [List.length_append, List.length_take, List.length_singleton, List.length_drop]; omega) hd'⟩
            · exact hkk
        · simp [-Bool.exists_bool, -sp_law_pick, -sp_law_one]
          split
          · refine hsg _ _ fun c o' hd' => ?_
            rw [vw_str, cutD_to, sizeLine_eq]
            exact ⟨by rw [List.length_take, List.length_singleton]; omega, by rw [List.length_take, List.length_singleton]; omega, fin _ _ (by simp only [List.length_append, List.length_take, List.length_singleton, List.length_drop]; omega) hd'⟩
          · exact hkk
      · simp [-Bool.exists_bool, -sp_law_pick, -sp_law_one]
        split
        · rw [ea, cutD_from, cutD_to, sizeLine_eq]
          exact ⟨by rw [List.length_take, List.length_drop]; omega, fin _ _ (by simp only [List.length_append, List.length_take, List.length_drop]; omega) (hd2.mono (by omega))⟩
        · exact hkk
    · simp [-Bool.exists_bool]
      refine ⟨B + 1, o1, mu_same, hd1, by omega, fun r o' h0 h1 hd' => ?_⟩
      rw [mu_mu]
      exact hkk _ _ ⟨r, o', hd', rfl, rfl⟩
  · simp [-Bool.exists_bool]
    refine ⟨by omega, B, o, hp, hd, by omega, fun r o' h0 h1 hd' => ?_⟩
    have er : r = ((r.toNat : Nat) : Int) := by omega
    exact hkk _ _ ⟨r.toNat, o', by omega, hd', rfl, by rw [← er]⟩
end K01

set_option Elab.async false
set_option linter.all false
set_option maxRecDepth 100000
set_option maxHeartbeats 1000000
/-! k16: the law. -/
namespace K01
open PySem L2 DL
open TL (joinL spl pre)
def okText (t : List Nat) : Bool := progD (progP t) && decide ((spl [10] 0 [] t).length = 2)
theorem bad_of {t : List Nat} (h : okText t = false) : ¬ ∃ rs b, Reads t rs b := by
  rintro ⟨rs, b, rfl, ho, hp⟩
  unfold okText at h
  rw [prog_back ho.1 ho.2.1 ho.2.2.1, lines_of ho.1 ho.2.1] at h
  have hp : progD (.tup [rdD rs, tb b]) = true := hp
  rw [hp] at h
  cases h
def cutS (s : String) : List (List Nat) := spl (q "!") 0 [] (q s)
def rowA : List (List Nat) := cutS "take a 01!take a 0!take a 4!take  a 1! take a 1!take a 1 !take a 1;"
def rowB' : List (List Nat) := cutS "take a 1;take b 1!until a end!until a nn!if a n ()!if a n (|)"
def rowC : List (List Nat) := cutS "while a (take a 1)!while a end!call!call()!call ()()!give a a!(take a 1)"
def rowD : List (List Nat) := cutS "call (take a 1!call (take a 1))!back c!while a n ( | )!take a"
def rowE : List Nat := (List.replicate 9 (q "call (")).flatten ++ (List.replicate 9 (q ")")).flatten
def rowsL : List (List Nat) := rowA ++ rowB' ++ rowC ++ rowD ++ [rowE]
theorem rows_bad : ∀ r ∈ rowsL, okText (q "a one, b ahead\n" ++ r) = false := by
  have h : (rowsL.all fun r => !okText (q "a one, b ahead\n" ++ r)) = true := by decide +kernel
  intro r hr
  have := List.all_eq_true.mp h r hr
  simpa using this
theorem rows_len : ∀ r ∈ rowsL, r.length ≤ 100 := by
  have h : (rowsL.all fun r => decide (r.length ≤ 100)) = true := by decide +kernel
  intro r hr
  have := List.all_eq_true.mp h r hr
  simpa using this
def goodA : List (List Nat) := cutS "!take a 1; take b 3!if a end ( | )!if a n (take a 1 | )!while b end ()"
def goodB : List (List Nat) := cutS "call ()!call (call (back a))"
def rdG : Rds := [(q "a", q "one"), (q "b", q "ahead")]
def goodT : List (List It) := [[], [.take (q "a") 1, .take (q "b") 3], [.ifte (q "a") [] [] []], [.ifte (q "a") (q "n") [.take (q "a") 1] []], [.whil (q "b") [] []], [.call []], [.call [.call [.back (q "a")]]]]
theorem good_eq : goodA ++ goodB = goodT.map bT := by decide +kernel
theorem good_ok : ∀ b ∈ goodT, PrOk rdG b ∧ progD (prD rdG b) = true := by
  have hp : (goodT.all fun b => progD (prD rdG b)) = true := by decide +kernel
  have hH : (goodT.all fun b => decide (bH b ≤ 8) && decide (bN b ≤ 40)) = true := by decide +kernel
  have hR : RdsOk rdG := ⟨by decide, by decide, fun p hp => by
    rcases List.mem_cons.mp hp with rfl | hp
    · exact ⟨by decide +kernel, .inr rfl⟩
    · obtain rfl := List.mem_singleton.mp hp
      exact ⟨by decide +kernel, .inl rfl⟩⟩
  have hn : MarkOk (q "n") := ⟨by decide +kernel, by decide⟩
  have hb : ∀ b ∈ goodT, bOk (nms rdG) b := by
    intro b hb
    have ha : q "a" ∈ nms rdG := by decide
    have hb2 : q "b" ∈ nms rdG := by decide
    simp only [goodT, List.mem_cons, List.not_mem_nil, or_false] at hb
    rcases hb with rfl | rfl | rfl | rfl | rfl | rfl | rfl <;> simp [bOk, itOk, ha, hb2, hn]
  intro b hbm
  have h1 := List.all_eq_true.mp hp b hbm
  have h2 := List.all_eq_true.mp hH b hbm
  rw [Bool.and_eq_true, decide_eq_true_iff, decide_eq_true_iff] at h2
  exact ⟨⟨hR, hb b hbm, h2.1, h2.2⟩, h1⟩
theorem good_reads : ∀ r ∈ goodA ++ goodB, ∃ rs b, Reads (q "a one, b ahead\n" ++ r) rs b := by
  rw [good_eq]
  intro r hr
  obtain ⟨b, hb, rfl⟩ := List.mem_map.mp hr
  obtain ⟨h1, h2⟩ := good_ok b hb
  refine ⟨rdG, b, ?_, h1, h2⟩
  unfold prT
  rw [← List.append_assoc]
  congr 1
theorem good_len : ∀ r ∈ goodA ++ goodB, r.length ≤ 100 := by
  have h : ((goodA ++ goodB).all fun r => decide (r.length ≤ 100)) = true := by decide +kernel
  intro r hr
  have := List.all_eq_true.mp h r hr
  simpa using this
def headA : List (List Nat) := cutS "!a!a one b one!b one, a one!a one,b one!a two!a one, a one!a one, !A one"
def headB : List (List Nat) := cutS "a one#"
def repl (x : List Nat) : List Nat := (Txt.replace ⟨x.toArray⟩ (Str.ofString "#") (Str.ofString "\n")).cps.toList
theorem heads_bad : ∀ r ∈ headA ++ headB, okText (repl r ++ q "\nback a") = false ∧ r.length ≤ 100 ∧ (repl r).length ≤ 100 := by
  have h : ((headA ++ headB).all fun r => !okText (repl r ++ q "\nback a") && decide (r.length ≤ 100) && decide ((repl r).length ≤ 100)) = true := by decide +kernel
  intro r hr
  have := List.all_eq_true.mp h r hr
  simpa [and_assoc] using this
theorem chance {r b : D} {m : Nat} (hr : readersD r = true) (hs : sizeB (namesD r) 8 b = some m) (hm : m ≤ 40) (hk : MkOk (marksB 8 b)) :
    ∃ rs bd, D.tup [r, b] = prD rs bd ∧ PrOk rs bd ∧ progD (prD rs bd) = true := by
  obtain ⟨h1, h2⟩ := prog_ok hr hs hm hk
  obtain ⟨rs, bd, e, ho⟩ := prog_tree h1
  rw [e] at h1 h2
  exact ⟨rs, bd, e, ho, h1⟩
theorem prT_len {rs : Rds} {b : List It} (h : PrOk rs b) : (prT rs b).length ≤ 3000 := by
  have l1 := rdT_len h.1
  have l2 := bT_len h.1.lab h.2.1
  have := h.2.2.2
  unfold prT
  simp only [List.length_append, show (q "\n").length = 1 from rfl]
  omega
theorem odd_read {x : D} (hx : x ∈ odds) {M : Mm} {Q : QD} {E : XD} (h : Q (.str (q "refused")) M) : sp_law_read [x] M Q E := by
  have hc : (odds.all fun x => match x with | .str s => !okText s && decide (s.length ≤ 100) | d => stdB d) = true := by decide +kernel
  have hc := List.all_eq_true.mp hc x hx
  cases x with
  | str s =>
    have hc : (!okText s && decide (s.length ≤ 100)) = true := hc
    rw [Bool.and_eq_true, decide_eq_true_iff] at hc
    have hn := bad_of (t := s) (by simpa using hc.1)
    exact ⟨by omega, fun rs b hr => absurd ⟨rs, b, hr⟩ hn, fun _ => h⟩
  | _ => exact ⟨hc, h⟩
def S14 (σ : DL.Sg) (M : Mm) : Prop := ∃ x0 x1 x2 x3 x4 x5 x6 x7 x8 x9 x10 x11 x12 x13 : Option D, σ = [x0, x1, x2, x3, x4, x5, x6, x7, x8, x9, x10, x11, x12, x13]
theorem r_law (ds : List D) (M : Mm) (Φ : QD) (Ψ : XD) (h : spLaw ds M Φ Ψ) : t_law sp_law_deck sp_law_program sp_text_of sp_law_pick sp_law_spoilt sp_law_read sp_law_is_program sp_law_odd (endD M Φ) (startD n_law ds) M := by
  obtain ⟨ins, rfl, hlen, hM, h⟩ := h
  clear hM
  unfold t_law
  refine seq_cut S14 ?_ fun kk hkk => ?_
  · rintro σ M' ⟨x0, x1, x2, x3, x4, x5, x6, x7, x8, x9, x10, x11, x12, x13, rfl⟩
    refine seq_to [x0, x1, x2, x3, x4, x5, x6, x7, x8, some (.lst (rowA.map .str)), x10, x11, x12, x13] M' ?_ fun kk hkk => ?_
    · refine seq_cut (fun σ M' => ∃ p, M' p = some (.lst ((rowA ++ rowB').map .str)) ∧ σ = [x0, x1, x2, x3, x4, x5, x6, x7, x8, some (.ref p), x10, x11, x12, x13]) ?_ fun kk hkk => ?_
      · rintro σ M' ⟨p, hp, rfl⟩
        refine seq_cut (fun σ M' => ∃ p, M' p = some (.lst ((rowA ++ rowB' ++ rowC).map .str)) ∧ σ = [x0, x1, x2, x3, x4, x5, x6, x7, x8, some (.ref p), x10, x11, x12, x13]) ?_ fun kk hkk => ?_
        · rintro σ M' ⟨p, hp, rfl⟩
          refine seq_cut (fun σ M' => ∃ p, M' p = some (.lst ((rowA ++ rowB' ++ rowC ++ rowD).map .str)) ∧ σ = [x0, x1, x2, x3, x4, x5, x6, x7, x8, some (.ref p), x10, x11, x12, x13]) ?_ fun kk hkk => ?_
          · rintro σ M' ⟨p, hp, rfl⟩
            refine seq_cut (fun σ M' => M' p = some (.lst (rowsL.map .str)) ∧ σ = [x0, x1, x2, x3, x4, x5, x6, x7, x8, some (.ref p), x10, x11, x12, x13]) ?_ fun kk hkk => ?_
            · rintro σ M' ⟨hp, rfl⟩
              refine seq_skip ?_ fun kk hkk => ?_
              · refine seq_to [x0, x1, x2, x3, x4, x5, x6, x7, x8, some (.ref p), some (.lst (goodA.map .str)), x11, x12, x13] M' ?_ fun kk hkk => ?_
                · refine seq_to [x0, x1, x2, x3, x4, x5, x6, x7, x8, some (.ref p), some (.lst ((goodA ++ goodB).map .str)), x11, x12, x13] M' ?_ fun kk hkk => ?_
                  · refine seq_skip ?_ fun kk hkk => ?_
                    · refine seq_to [x0, x1, x2, x3, x4, x5, x6, x7, x8, some (.ref p), some (.lst ((goodA ++ goodB).map .str)), some (.lst (headA.map .str)), x12, x13] M' ?_ fun kk hkk => ?_
                      · refine seq_to [x0, x1, x2, x3, x4, x5, x6, x7, x8, some (.ref p), some (.lst ((goodA ++ goodB).map .str)), some (.lst ((headA ++ headB).map .str)), x12, x13] M' ?_ fun kk hkk => ?_
                        · refine seq_to [x0, x1, x2, x3, x4, x5, x6, x7, x8, some (.ref p), some (.lst ((goodA ++ goodB).map .str)), some (.lst (((headA ++ headB).map repl).map .str)), x12, x13] M' ?_ fun kk hkk => ?_
                          · simp [-Bool.exists_bool, -List.map_append, -List.map_map]
                            intro p1 hp1
                            refine lcD_of (fun _ => false) (fun d => d) _ _ _ trivial (fun d hd => ?_) (by rw [List.length_nil, List.length_map]; decide +kernel) ?_
                            · obtain ⟨r, hr, rfl⟩ := List.mem_map.mp hd
                              obtain ⟨r2, hr2, rfl⟩ := List.mem_map.mp hr
                              obtain ⟨h1, h2, h3⟩ := heads_bad r2 hr2
                              have hn := bad_of h1
                              have hb : (q "\nback a").length = 7 := by decide
                              refine ⟨_, rfl, fun K hK => ?_, fun z => by cases z⟩
                              simp [-Bool.exists_bool]
                              exact ⟨by rw [hb, sizeLine_eq]; omega, by rw [hb]; omega, fun rs b hr3 => absurd ⟨rs, b, hr3⟩ hn, fun _ => hK⟩
                            · simp [me_mu hp1]
                              exact h _
                          · simp [-Bool.exists_bool, -List.map_append, -List.map_map]
                            intro p1 hp1
                            rw [show List.map D.str (headA ++ headB) = (headA ++ headB).map D.str from rfl]
                            refine lcD_typed D.str (fun r => .str (repl r)) _ _ (fun r hr => ⟨_, rfl, fun K hK => ?_⟩) (by rw [List.length_nil]; decide +kernel) ?_
                            · obtain ⟨_, h2, h3⟩ := heads_bad r hr
                              simp [-Bool.exists_bool]
                              have hb : (q "\n").length = 1 := by decide
                              exact ⟨by rw [hb]; omega, hK⟩
                            · have e : ((headA ++ headB).map repl).map D.str = (headA ++ headB).map (fun r => D.str (repl r)) := by rw [List.map_map]; rfl
                              rw [me_mu hp1, List.nil_append, ← e]
                              exact hkk
                        · simp [-Bool.exists_bool, -List.map_append]
                          refine ⟨rfl, by decide, by decide, by decide, by decide +kernel, ?_⟩
                          rw [List.map_append] at hkk
                          exact hkk
                      · simp [-Bool.exists_bool, -List.map_append]
                        exact ⟨rfl, by decide, by decide, by decide, hkk⟩
                    · simp [-Bool.exists_bool, -List.map_append]
                      intro p1 hp1
                      refine lcD_of (fun _ => false) (fun d => d) _ _ _ trivial (fun d hd => ?_) (by rw [List.length_nil, List.length_map]; decide +kernel) ?_
                      · obtain ⟨r, hr, rfl⟩ := List.mem_map.mp hd
                        obtain ⟨rs, b, hrd⟩ := good_reads r hr
                        have h2 := good_len r hr
                        have hb : (q "a one, b ahead\n").length = 15 := by decide
                        refine ⟨_, rfl, fun K hK => ?_, fun z => by cases z⟩
                        simp [-Bool.exists_bool]
                        exact ⟨by rw [hb, sizeLine_eq]; omega, by rw [hb]; omega, fun rs2 b2 _ => ⟨false, rfl, hK⟩, fun hx => absurd hrd (hx rs b)⟩
                      · simp [me_mu hp1]
                        exact hkk
                  · simp [-Bool.exists_bool, -List.map_append]
                    refine ⟨rfl, by decide, by decide, by decide, by decide +kernel, ?_⟩
                    rw [List.map_append] at hkk
                    exact hkk
                · simp [-Bool.exists_bool, -List.map_append]
                  exact ⟨rfl, by decide, by decide, by decide, hkk⟩
              · have hv : vw M' (.ref p) = .lst (rowsL.map .str) := vw_ref hp
                simp [-Bool.exists_bool, -List.map_append, hv]
                refine ⟨_, hp, fun p1 hp1 => ?_⟩
                have hne : p1 ≠ p := fun e => by rw [e, hp] at hp1; cases hp1
                refine lcD_of (fun _ => false) (fun d => d) _ _ _ (by rw [mu_ne (Ne.symm hne)]; exact hp) (fun d hd => ?_) (by rw [List.length_nil, List.length_map]; decide +kernel) ?_
                · obtain ⟨r, hr, rfl⟩ := List.mem_map.mp hd
                  have hn := bad_of (rows_bad r hr)
                  have h2 := rows_len r hr
                  have hb : (q "a one, b ahead\n").length = 15 := by decide
                  refine ⟨_, rfl, fun K hK => ?_, fun z => by cases z⟩
                  simp [-Bool.exists_bool]
                  exact ⟨by rw [hb, sizeLine_eq]; omega, by rw [hb]; omega, fun rs b hr3 => absurd ⟨rs, b, hr3⟩ hn, fun _ => hK⟩
                · simp [me_mu hp1]
                  exact hkk
            · have hv : vw M' (.ref p) = .lst ((rowA ++ rowB' ++ rowC ++ rowD).map .str) := vw_ref hp
              simp [-Bool.exists_bool, -List.map_append, hv, hp]
              refine ⟨.inl ⟨rfl, _, hp⟩, by decide, by decide, by decide, by decide, by decide, by decide +kernel, hkk _ _ ⟨?_, rfl⟩⟩
              rw [mu_same]
              simp only [rowsL, List.map_append, List.append_assoc, List.map_cons, List.map_nil]
              rfl
          · have hv : vw M' (.ref p) = .lst ((rowA ++ rowB' ++ rowC).map .str) := vw_ref hp
            simp [-Bool.exists_bool, -List.map_append, hv]
            refine ⟨rfl, by decide, by decide, by decide, by decide +kernel, fun p hp => hkk _ _ ⟨p, ?_, rfl⟩⟩
            rw [mu_same]
            simp only [List.map_append, List.append_assoc]
            rfl
        · have hv : vw M' (.ref p) = .lst ((rowA ++ rowB').map .str) := vw_ref hp
          simp [-Bool.exists_bool, -List.map_append, hv]
          refine ⟨rfl, by decide, by decide, by decide, by decide +kernel, fun p hp => hkk _ _ ⟨p, ?_, rfl⟩⟩
          rw [mu_same]
          simp only [List.map_append, List.append_assoc]
          rfl
      · simp [-Bool.exists_bool, -List.map_append]
        refine ⟨rfl, by decide, by decide, by decide, by decide +kernel, fun p hp => hkk _ _ ⟨p, ?_, rfl⟩⟩
        rw [mu_same]
        simp only [List.map_append, List.append_assoc]
        rfl
    · simp [-Bool.exists_bool, -List.map_append]
      exact ⟨rfl, by decide, by decide, by decide, hkk⟩
  · refine cells_loop (n := 6) ins S14 hlen rfl ⟨_, _, _, _, _, _, _, _, _, _, _, _, _, _, rfl⟩ ?_ hkk
    rintro i σ M' ⟨x0, x1, x2, x3, x4, x5, x6, x7, x8, x9, x10, x11, x12, x13, rfl⟩ κ hκ
    refine seq_cut (fun σ M' => ∃ p o, M' p = some o ∧ DkO 1000 o ∧ σ = [x0, some (.int i), some (.ref p), x3, x4, x5, x6, x7, x8, x9, x10, x11, x12, x13]) ?_ fun kk hkk => ?_
    · rintro σ M' ⟨p, o, hp, hd, rfl⟩
      refine seq_cut (fun σ M' => ∃ (o : MO) (rs : Rds) (b : List It) (y3 y5 y6 y7 : Option D), M' p = some o ∧ DkO 30000000 o ∧ PrOk rs b ∧ σ = [x0, some (.int i), some (.ref p), y3, some (prD rs b), y5, y6, y7, x8, x9, x10, x11, x12, x13]) ?_ fun kk hkk => ?_
      · rintro σ M' ⟨o, rs, b, y3, y5, y6, y7, hp2, hd2, ho, rfl⟩
        refine seq_cut (fun σ M' => ∃ x, x ∈ odds ∧ σ = [x0, some (.int i), some (.ref p), y3, some (prD rs b), y5, y6, y7, some x, x9, x10, x11, x12, x13]) ?_ fun kk hkk => ?_
        · rintro σ M' ⟨x, hx, rfl⟩
          simp [-Bool.exists_bool, -sp_law_read]
          refine odd_read hx ⟨true, (by simp [eqC]), ?_⟩
          rw [if_pos rfl]
          refine ⟨rs, b, rfl, ho, by decide, ⟨rfl, true, (by simp [eqC]), ?_⟩⟩
          rw [if_pos rfl]
          exact hκ _ _ ⟨_, _, _, _, _, _, _, _, _, _, _, _, _, _, rfl⟩
        · simp [-Bool.exists_bool]
          exact ⟨_, o, hp2, hd2, by omega, fun x o' hx hd' => hkk _ _ ⟨x, hx, rfl⟩⟩
      · simp [-Bool.exists_bool]
        refine forD_inv (fun rest σ M' => ∃ (j : Nat) (o : MO) (y3 y4 y5 y6 y7 : Option D), j + rest.length = 12 ∧ M' p = some o ∧ DkO (1000 + j * 2000000) o ∧ (0 < j → ∃ rs b, y4 = some (prD rs b) ∧ PrOk rs b) ∧ σ = [x0, some (.int i), some (.ref p), y3, y4, y5, y6, y7, x8, x9, x10, x11, x12, x13]) ?_ ?_ _ _ _ ⟨0, o, x3, x4, x5, x6, x7, rfl, hp, hd, fun z => absurd z (by decide), rfl⟩
        · rintro σ M' ⟨j, o, y3, y4, y5, y6, y7, hj, hp4, hd4, hy, rfl⟩
          rw [List.length_nil] at hj
          obtain ⟨rs, b, rfl, ho⟩ := hy (by omega)
          exact ⟨trivial, hkk _ _ ⟨o, rs, b, y3, y5, y6, y7, hp4, hd4.mono (by omega), ho, rfl⟩⟩
        · rintro d rest σ M' ⟨j, o, y3, y4, y5, y6, y7, hj, hp4, hd4, hy, rfl⟩
          rw [List.length_cons] at hj
          refine ⟨trivial, _, rfl, fun κ2 hκ2 => ?_⟩
          refine seq_cut (fun σ M' => ∃ (o : MO) (rs : Rds) (b : List It), M' p = some o ∧ DkO (1000 + j * 2000000 + 1000000) o ∧ PrOk rs b ∧ progD (prD rs b) = true ∧ σ = [x0, some (.int i), some (.ref p), some d, some (prD rs b), y5, y6, y7, x8, x9, x10, x11, x12, x13]) ?_ fun kk hkk => ?_
          · rintro σ M' ⟨o, rs, b, hp5, hd5, ho, hpr, rfl⟩
            refine seq_to [x0, some (.int i), some (.ref p), some d, some (prD rs b), some (.str (prT rs b)), y6, y7, x8, x9, x10, x11, x12, x13] M' ?_ fun kk hkk => ?_
            · refine seq_cut (fun σ M' => ∃ (o : MO) (t : List Nat) (y6 : Option D), M' p = some o ∧ DkO (1000 + j * 2000000 + 1100000) o ∧ t.length ≤ 4000 ∧ σ = [x0, some (.int i), some (.ref p), some d, some (prD rs b), some (.str t), y6, y7, x8, x9, x10, x11, x12, x13]) ?_ fun kk hkk => ?_
              · rintro σ M' ⟨o, t, y6, hp6, hd6, ht, rfl⟩
                refine seq_cut (fun σ M' => M' p = some o ∧ ((∃ rs2 b2, Reads t rs2 b2 ∧ σ = [x0, some (.int i), some (.ref p), some d, some (prD rs b), some (.str t), y6, some (prD rs2 b2), x8, x9, x10, x11, x12, x13]) ∨ ((¬ ∃ rs2 b2, Reads t rs2 b2) ∧ σ = [x0, some (.int i), some (.ref p), some d, some (prD rs b), some (.str t), y6, some (.str (q "refused")), x8, x9, x10, x11, x12, x13]))) ?_ fun kk hkk => ?_
                · have fin : ∀ M2 y7, M2 p = some o → κ2 [x0, some (.int i), some (.ref p), some d, some (prD rs b), some (.str t), y6, y7, x8, x9, x10, x11, x12, x13] M2 := fun M2 y7 h2 => hκ2 _ _ ⟨j + 1, o, _, _, _, _, _, by omega, h2, hd6.mono (by omega), fun _ => ⟨rs, b, rfl, ho⟩, rfl⟩
                  rintro σ M' ⟨hp6, ⟨rs2, b2, hr, rfl⟩ | ⟨hn, rfl⟩⟩
                  · obtain ⟨rfl, ho2, hpr2⟩ := hr
                    have hl2 := prog_lim hpr2
                    simp [-Bool.exists_bool]
                    refine ⟨false, rfl, ?_⟩
                    rw [if_neg Bool.false_ne_true]
                    refine ⟨hl2.1, by have := hl2.2.2; omega, ?_⟩
                    rw [if_pos hpr2]
                    refine ⟨rs2, b2, rfl, ho2, ?_⟩
                    rw [if_pos rfl]
                    exact fin _ _ hp6
                  · simp [-Bool.exists_bool]
                    refine ⟨rs, b, rfl, ho, ?_⟩
                    rw [if_neg fun e => hn ⟨rs, b, e, ho, hpr⟩]
                    exact fin _ _ hp6
                · simp [-Bool.exists_bool]
                  exact ⟨by omega, fun rs2 b2 hr => hkk _ _ ⟨hp6, .inl ⟨rs2, b2, hr, rfl⟩⟩, fun hn => hkk _ _ ⟨hp6, .inr ⟨by rintro ⟨rs2, b2, hr⟩; exact hn rs2 b2 hr, rfl⟩⟩⟩
              · simp [-Bool.exists_bool, -sp_law_spoilt]
                refine ⟨_, o, hp5, hd5, by omega, fun r o' h0 h1 hd' => ⟨⟨by omega, by omega⟩, ?_⟩⟩
                have hrl : (rngD 0 (1 + r).toNat).length ≤ 2 := by simp [rngD]; omega
                have hpl := prT_len ho
                refine forD_inv (fun rest σ M' => ∃ (n : Nat) (o : MO) (t : List Nat) (y6 : Option D), n + rest.length ≤ 2 ∧ M' p = some o ∧ DkO (1000 + j * 2000000 + 1000000 + 1 + 3 * n) o ∧ t.length ≤ 3000 + 4 * n ∧ σ = [x0, some (.int i), some (.ref p), some d, some (prD rs b), some (.str t), y6, y7, x8, x9, x10, x11, x12, x13]) ?_ ?_ _ _ _ ⟨0, o', prT rs b, y6, by omega, mu_same, hd', by omega, rfl⟩
                · rintro σ M' ⟨n, o, t, y6, hn, hp6, hd6, ht, rfl⟩
                  rw [List.length_nil] at hn
                  exact ⟨trivial, hkk _ _ ⟨o, t, y6, hp6, hd6.mono (by omega), by omega, rfl⟩⟩
                · rintro e rest σ M' ⟨n, o, t, y6, hn, hp6, hd6, ht, rfl⟩
                  rw [List.length_cons] at hn
                  refine ⟨trivial, _, rfl, fun κ3 hκ3 => ?_⟩
                  simp [-Bool.exists_bool, -sp_law_spoilt]
                  refine ⟨p, t, _, o, rfl, by omega, hp6, hd6, by omega, fun t' o2 ht' hd2 => hκ3 _ _ ⟨n + 1, o2, t', _, by omega, mu_same, hd2.mono (by omega), by omega, rfl⟩⟩
            · simp [-Bool.exists_bool]
              exact ⟨rs, b, rfl, ho, hkk⟩
          · simp [-Bool.exists_bool]
            refine ⟨_, o, hp4, hd4, by omega, fun r b m o' hr hsz hm hmk hdk => ?_⟩
            obtain ⟨rs, bd, e, ho, hpr⟩ := chance hr hsz (by omega) hmk
            rw [e]
            exact hkk _ _ ⟨o', rs, bd, mu_same, hdk, ho, hpr, rfl⟩
    · simp [-Bool.exists_bool]
      exact fun p o hp ho => hkk _ _ ⟨p, o, mu_same, ho, rfl⟩
end K01

set_option Elab.async false
set_option linter.all false
set_option maxRecDepth 100000
set_option maxHeartbeats 1000000
namespace K01
open PySem L2 DL
section
variable {P : Program} {w : World} {K : PySem.W.Frag} {mg : Str → Option Value} {base : Heap}
theorem len1 {sp : SpD} (h : ∀ ds M Q E, sp ds M Q E → ∃ d, ds = [d]) : ∀ ds M Q E, sp ds M Q E → ds.length = 1 := fun ds M Q E q => by
  obtain ⟨d, rfl⟩ := h ds M Q E q
  rfl
theorem a_is_whole (E : En K mg) : FnG P w K mg base 1 "is_whole" ["value", "low", "high"] sp_is_whole := g_is_whole E.txt E.e_is_whole (fun ds M Q E h => by unfold sp_is_whole at h; split at h; rfl; exact h.elim) r_is_whole
theorem a_is_label (E : En K mg) : FnG P w K mg base 1 "is_label" ["value"] sp_is_label := g_is_label E.txt E.e_is_label (fun ds M Q E h => by obtain ⟨d, rfl, _⟩ := h; rfl) r_is_label
theorem a_are_readers (E : En K mg) : FnG P w K mg base 2 "are_readers" ["value"] sp_are_readers := g_are_readers E.txt E.e_are_readers (a_is_label E) (fun ds M Q E h => by obtain ⟨d, rfl, _⟩ := h; rfl) r_are_readers
theorem a_names_of (E : En K mg) : FnG P w K mg base 1 "names_of" ["readers"] sp_names_of := g_names_of E.txt E.e_names_of (fun ds M Q E h => by obtain ⟨d, rfl, _⟩ := h; rfl) r_names_of
theorem a_is_name (E : En K mg) : FnG P w K mg base 2 "is_name" ["readers", "value"] sp_is_name := g_is_name E.txt E.e_is_name (a_names_of E) (fun ds M Q E h => by unfold sp_is_name at h; split at h; rfl; exact h.elim) r_is_name
theorem a_is_mark (E : En K mg) : FnG P w K mg base 2 "is_mark" ["value"] sp_is_mark := g_is_mark E.txt E.e_is_mark (a_is_label E) (fun ds M Q E h => by obtain ⟨d, rfl, _⟩ := h; rfl) r_is_mark
theorem a_inner (E : En K mg) : FnG P w K mg base 1 "inner" ["item"] sp_inner := g_inner E.txt E.e_inner (fun ds M Q E h => by unfold sp_inner at h; split at h; rfl; exact h.elim) r_inner
theorem a_is_simple (E : En K mg) : FnG P w K mg base 3 "is_simple" ["readers", "item"] sp_is_simple := g_is_simple E.txt E.e_is_simple (a_is_name E) ((a_is_whole E).mono (by decide)) (a_is_mark E) (fun ds M Q E h => by unfold sp_is_simple at h; split at h; rfl; exact h.elim) r_is_simple
theorem a_is_look (E : En K mg) : FnG P w K mg base 3 "is_look" ["readers", "item"] sp_is_look := g_is_look E.txt E.e_is_look (a_is_name E) (a_is_mark E) (fun ds M Q E h => by unfold sp_is_look at h; split at h; rfl; exact h.elim) r_is_look
theorem a_item (E : En K mg) (n k : Nat) (hk : 3 ≤ k) (G : FnG P w K mg base k "size_of" ["readers", "body", "deep"] (sp_size_of n)) : FnG P w K mg base (k + 1) "size_of_item" ["readers", "item", "deep"] (sp_size_of_item n) :=
  g_size_of_item E.txt E.e_size_of_item ((a_is_simple E).mono hk) ((a_is_look E).mono hk) ((a_inner E).mono (by omega)) G (fun ds M Q E h => by unfold sp_size_of_item at h; split at h; rfl; exact h.elim) (r_size_of_item n)
theorem a_size (E : En K mg) : ∀ n : Nat, FnG P w K mg base (4 + 2 * n) "size_of" ["readers", "body", "deep"] (sp_size_of n)
  | 0 => (g_size_of (k := 1) E.txt E.e_size_of (E.e_size_of_item.no sc_size_of_item) (fun ds M Q E h => by unfold sp_size_of at h; split at h; rfl; exact h.elim) r_size_of0).mono (by omega)
  | n + 1 => (g_size_of E.txt E.e_size_of (a_item E n _ (by omega) (a_size E n)) (fun ds M Q E h => by unfold sp_size_of at h; split at h; rfl; exact h.elim) (r_size_of n)).mono (by omega)
theorem a_marks (E : En K mg) : ∀ n : Nat, FnG P w K mg base (1 + n) "marks_in" ["body"] (sp_marks_in n)
  | 0 => (E.e_marks_in.no (k := 0) sc_marks_in).imp fun ds M Q E h => by
    unfold sp_marks_in at h
    split at h
    · obtain ⟨_, _, h, _⟩ := h; cases h
    · exact h
  | n + 1 => (g_marks_in (k := 1 + n) E.txt E.e_marks_in ((a_inner E).mono (by omega)) (a_marks E n) (fun ds M Q E h => by unfold sp_marks_in at h; split at h; rfl; exact h.elim) (r_marks_in n)).mono (by omega)
theorem a_is_program (E : En K mg) : FnG P w K mg base 21 "is_program" ["value"] sp_is_program := g_is_program E.txt E.e_is_program ((a_are_readers E).mono (by decide)) (a_size E 8) ((a_marks E 8).mono (by decide)) (fun ds M Q E h => by unfold sp_is_program at h; split at h; rfl; exact h.elim) r_is_program
theorem a_l_label (E : En K mg) : FnG P w K mg base 1 "_law_is_label" ["value"] sp_law_is_label := g_law_is_label E.txt E.e_law_is_label (fun ds M Q E h => by unfold sp_law_is_label at h; split at h; rfl; exact h.elim) r_law_is_label
theorem a_l_readers (E : En K mg) : FnG P w K mg base 2 "_law_are_readers" ["value"] sp_law_are_readers := g_law_are_readers E.txt E.e_law_are_readers (a_l_label E) (fun ds M Q E h => by unfold sp_law_are_readers at h; split at h; rfl; exact h.elim) r_law_are_readers
theorem a_l_mark (E : En K mg) : FnG P w K mg base 2 "_law_is_mark" ["value", "empty"] sp_law_is_mark := g_law_is_mark E.txt E.e_law_is_mark (a_l_label E) (fun ds M Q E h => by unfold sp_law_is_mark at h; split at h; rfl; exact h.elim) r_law_is_mark
theorem a_l_simple (E : En K mg) : FnG P w K mg base 3 "_law_is_simple" ["names", "step"] sp_law_is_simple := g_law_is_simple E.txt E.e_law_is_simple (a_l_mark E) (fun ds M Q E h => by unfold sp_law_is_simple at h; split at h; rfl; exact h.elim) r_law_is_simple
theorem a_l_size (E : En K mg) : ∀ n : Nat, FnG P w K mg base (4 + n) "_law_size" ["names", "body", "deep", "marks"] (sp_law_size n)
  | 0 => g_law_size (k := 3) E.txt E.e_law_size ((a_l_mark E).mono (by decide)) (a_l_simple E) (E.e_law_size.no (k := 2) sc_law_size) (fun ds M Q E h => by unfold sp_law_size at h; split at h; rfl; exact h.elim) r_law_size0
  | n + 1 => g_law_size (k := 4 + n) E.txt E.e_law_size ((a_l_mark E).mono (by omega)) ((a_l_simple E).mono (by omega)) (a_l_size E n) (fun ds M Q E h => by unfold sp_law_size at h; split at h; rfl; exact h.elim) (r_law_size n)
theorem a_l_program (E : En K mg) : FnG P w K mg base 13 "_law_is_program" ["value"] sp_law_is_program := g_law_is_program E.txt E.e_law_is_program ((a_l_readers E).mono (by decide)) (a_l_size E 8) (fun ds M Q E h => by unfold sp_law_is_program at h; split at h; rfl; exact h.elim) r_law_is_program
theorem a_deck (E : En K mg) : FnG P w K mg base 1 "_law_deck" ["cell", "turn"] sp_law_deck := g_law_deck E.txt E.e_law_deck (fun ds M Q E h => by unfold sp_law_deck at h; split at h; rfl; exact h.elim) r_law_deck
theorem a_pick (E : En K mg) : FnG P w K mg base 1 "_law_pick" ["deck", "limit"] sp_law_pick := g_law_pick E.txt E.e_law_pick (fun ds M Q E h => by unfold sp_law_pick at h; split at h; rfl; exact h.elim) r_law_pick
theorem a_one (E : En K mg) : FnG P w K mg base 2 "_law_one" ["deck", "items"] sp_law_one := g_law_one E.txt E.e_law_one (a_pick E) (fun ds M Q E h => by unfold sp_law_one at h; split at h; rfl; exact h.elim) r_law_one
theorem a_c_readers (E : En K mg) : FnG P w K mg base 3 "_law_readers" ["deck"] sp_law_readers := g_law_readers E.txt E.e_law_readers ((a_pick E).mono (by decide)) (a_one E) (fun ds M Q E h => by unfold sp_law_readers at h; split at h; rfl; exact h.elim) r_law_readers
theorem a_upto (E : En K mg) : ∀ n : Nat, FnG P w K mg base (2 + n) "_law_body" ["deck", "readers", "deep", "left"] (sp_upto n)
  | 0 => (E.e_law_body.no (k := 1) sc_law_body).imp fun ds M Q E ⟨_, h, _⟩ => absurd h (Nat.not_lt_zero _)
  | n + 1 => g_law_body (k := 2 + n) E.txt E.e_law_body ((a_pick E).mono (by omega)) ((a_one E).mono (by omega)) (a_upto E n) (fun ds M Q E ⟨d, _, h⟩ => by unfold sp_law_body at h; split at h; rfl; exact h.elim) (r_upto n)
theorem a_program (E : En K mg) : FnG P w K mg base 7 "_law_program" ["deck", "limit"] sp_law_program := g_law_program E.txt E.e_law_program ((a_c_readers E).mono (by decide)) (a_upto E 4) ((a_pick E).mono (by decide)) (fun ds M Q E h => by unfold sp_law_program at h; split at h; rfl; exact h.elim) r_law_program
theorem a_l_inner (E : En K mg) : FnG P w K mg base 1 "_law_inner" ["item"] sp_law_inner := g_law_inner E.txt E.e_law_inner (fun ds M Q E h => by unfold sp_law_inner sp_inner at h; split at h; rfl; exact h.elim) r_law_inner
theorem a_odd (E : En K mg) : FnG P w K mg base 3 "_law_odd" ["deck"] sp_law_odd := g_law_odd E.txt E.e_law_odd (a_one E) (fun ds M Q E h => by unfold sp_law_odd at h; split at h; rfl; exact h.elim) r_law_odd
end
end K01

set_option Elab.async false
set_option linter.all false
set_option maxRecDepth 100000
set_option maxHeartbeats 1000000
namespace K01
open PySem L2 DL
section
variable {P : Program} {w : World} {K : PySem.W.Frag} {mg : Str → Option Value} {base : Heap}
theorem a_body_text (E : En K mg) : ∀ n : Nat, FnG P w K mg base (1 + 2 * n) "body_text" ["body"] (sp_body_text n)
  | 0 => (E.e_body_text.no (k := 0) sc_body_text).imp fun ds M Q E ⟨ns, b, _, _, _, h, _⟩ => by have := bH_pos b; omega
  | n + 1 => (g_body_text (k := 2 + 2 * n) E.txt E.e_body_text ((g_item_text (k := 1 + 2 * n) E.txt E.e_item_text ((a_inner E).mono (by omega)) (a_body_text E n) (fun ds M Q E ⟨_, _, h, _⟩ => by rw [h]; rfl) (r_item_text n)).mono (by omega)) (fun ds M Q E ⟨_, _, h, _⟩ => by rw [h]; rfl) (r_body_text n)).mono (by omega)
theorem a_l_body_text (E : En K mg) : ∀ n : Nat, FnG P w K mg base (1 + 2 * n) "_law_body_text" ["body"] (sp_body_text n)
  | 0 => (E.e_law_body_text.no (k := 0) sc_law_body_text).imp fun ds M Q E ⟨ns, b, _, _, _, h, _⟩ => by have := bH_pos b; omega
  | n + 1 => (g_law_body_text (k := 2 + 2 * n) E.txt E.e_law_body_text ((g_law_item_text (k := 1 + 2 * n) E.txt E.e_law_item_text ((a_l_inner E).mono (by omega)) (a_l_body_text E n) (fun ds M Q E ⟨_, _, h, _⟩ => by rw [h]; rfl) (r_law_item_text n)).mono (by omega)) (fun ds M Q E ⟨_, _, h, _⟩ => by rw [h]; rfl) (r_law_body_text n)).mono (by omega)
theorem a_text_of (E : En K mg) : FnG P w K mg base 18 "text_of" ["program"] sp_text_of := g_text_of E.txt E.e_text_of (a_body_text E 8) (fun ds M Q E ⟨_, _, h, _⟩ => by rw [h]; rfl) r_text_of
theorem a_l_text (E : En K mg) : FnG P w K mg base 18 "_law_text" ["program"] sp_text_of := g_law_text E.txt E.e_law_text (a_l_body_text E 8) (fun ds M Q E ⟨_, _, h, _⟩ => by rw [h]; rfl) r_law_text
theorem a_cut_up (E : En K mg) : FnG P w K mg base 1 "cut_up" ["text", "sign"] sp_cut_up := g_cut_up E.txt E.e_cut_up (fun ds M Q E ⟨_, _, h, _⟩ => by rw [h]; rfl) r_cut_up
theorem a_head_in (E : En K mg) : FnG P w K mg base 1 "head_in" ["text"] sp_head_in := g_head_in E.txt E.e_head_in (fun ds M Q E ⟨_, h, _⟩ => by rw [h]; rfl) r_head_in
theorem a_body_in (E : En K mg) : ∀ n : Nat, FnG P w K mg base (2 + 2 * n) "body_in" ["text", "deep"] (sp_body_in n)
  | 0 => g_body_in (k := 1) E.txt E.e_body_in (a_cut_up E) (E.e_item_in.no sc_item_in) (fun ds M Q E ⟨_, h, _⟩ => by rw [h]; rfl) r_body_in0
  | n + 1 => (g_body_in (k := 3 + 2 * n) E.txt E.e_body_in ((a_cut_up E).mono (by omega)) ((g_item_in (k := 2 + 2 * n) E.txt E.e_item_in ((a_head_in E).mono (by omega)) ((a_cut_up E).mono (by omega)) (a_body_in E n) (fun ds M Q E ⟨_, h, _⟩ => by rw [h]; rfl) (r_item_in n)).mono (by omega)) (fun ds M Q E ⟨_, h, _⟩ => by rw [h]; rfl) (r_body_in n)).mono (by omega)
theorem a_read (E : En K mg) : FnGX P w K mg base 22 "read_program" ["text"] sp_read_program := g_read_program E.txt E.e_read_program ((a_body_in E 8).mono (by decide)) (a_is_program E) ((a_text_of E).mono (by decide)) (fun ds M Q E h => by unfold sp_read_program at h; split at h; rfl; rfl; exact h.elim) r_read_program
theorem a_l_read (E : En K mg) : FnG P w K mg base 23 "_law_read" ["value"] sp_law_read := g_law_read E.txt E.e_law_read (a_read E) (fun ds M Q E h => by unfold sp_law_read at h; split at h; rfl; rfl; exact h.elim) r_law_read
theorem len_oneX : ∀ ds M Q E, sp_law_oneX ds M Q E → ds.length = 2 := fun ds M Q E h => by
  rcases h with h | ⟨_, _, _, _, rfl, _⟩
  · unfold sp_law_one at h; split at h; rfl; exact h.elim
  · rfl
theorem a_oneX (E : En K mg) : FnG P w K mg base 2 "_law_one" ["deck", "items"] sp_law_oneX := g_law_one E.txt E.e_law_one (a_pick E) len_oneX r_law_oneX
theorem aI_oneX (E : En K mg) : FnI P w K mg base 2 "_law_one" sp_law_oneX := gI_law_one E.txt E.e_law_one (a_pick E) r_law_oneX
theorem a_spoilt (E : En K mg) : FnG P w K mg base 3 "_law_spoilt" ["deck", "text"] sp_law_spoilt := g_law_spoilt E.txt E.e_law_spoilt ((a_pick E).mono (by decide)) (a_oneX E) (aI_oneX E) (fun ds M Q E ⟨_, _, _, _, h, _⟩ => by rw [h]; rfl) r_law_spoilt
def kLaw : Nat := 41
theorem law_ok {f : Addr} {fd : FuncData} (E : En K mg) (F : FnP K "law" s_law f fd) : FnOk P w K mg base CX0 kLaw f fd ["script"] (lSp K mg spLaw) :=
  o_law (k := 40) E.txt F ((a_deck E).mono (by decide)) ((a_program E).mono (by decide)) ((a_l_text E).mono (by decide)) ((a_pick E).mono (by decide)) ((a_spoilt E).mono (by decide)) ((a_l_read E).mono (by decide)) ((a_l_program E).mono (by decide)) ((a_odd E).mono (by decide)) r_law
end
end K01

set_option Elab.async false
set_option linter.all false
set_option maxRecDepth 100000
set_option maxHeartbeats 0
namespace K01
open PySem L2 DL
/-! ### the head -/
def fn : List He.DefD := [defD "is_whole" s_is_whole,
  defD "is_label" s_is_label,
  defD "are_readers" s_are_readers,
  defD "names_of" s_names_of,
  defD "is_name" s_is_name,
  defD "is_mark" s_is_mark,
  defD "inner" s_inner,
  defD "is_simple" s_is_simple,
  defD "is_look" s_is_look,
  defD "size_of_item" s_size_of_item,
  defD "size_of" s_size_of,
  defD "marks_in" s_marks_in,
  defD "is_program" s_is_program,
  defD "item_text" s_item_text,
  defD "body_text" s_body_text,
  defD "text_of" s_text_of,
  defD "cut_up" s_cut_up,
  defD "head_in" s_head_in,
  defD "item_in" s_item_in,
  defD "body_in" s_body_in,
  defD "read_program" s_read_program,
  defD "_law_deck" s_law_deck,
  defD "_law_pick" s_law_pick,
  defD "_law_one" s_law_one,
  defD "_law_readers" s_law_readers,
  defD "_law_body" s_law_body,
  defD "_law_program" s_law_program,
  defD "_law_inner" s_law_inner,
  defD "_law_item_text" s_law_item_text,
  defD "_law_body_text" s_law_body_text,
  defD "_law_text" s_law_text,
  defD "_law_odd" s_law_odd,
  defD "_law_is_label" s_law_is_label,
  defD "_law_are_readers" s_law_are_readers,
  defD "_law_is_mark" s_law_is_mark,
  defD "_law_is_simple" s_law_is_simple,
  defD "_law_size" s_law_size,
  defD "_law_is_program" s_law_is_program,
  defD "_law_read" s_law_read,
  defD "_law_spoilt" s_law_spoilt,
  defD "law" s_law]
def fx : List Fx := [fxFree "all", fxFree "bool", fxFree "int", fxFree "isinstance", fxFree "len", fxFree "range", fxFree "set", fxFree "sorted", fxFree "str", fxFree "tuple", fxFree "zip", fxGlo "is_whole", fxGlo "is_label", fxGlo "are_readers", fxGlo "names_of", fxGlo "is_name", fxGlo "is_mark", fxGlo "inner", fxGlo "is_simple", fxGlo "is_look", fxGlo "size_of_item", fxGlo "size_of", fxGlo "marks_in", fxGlo "is_program", fxGlo "item_text", fxGlo "body_text", fxGlo "text_of", fxGlo "cut_up", fxGlo "head_in", fxGlo "item_in", fxGlo "body_in", fxGlo "read_program", fxGlo "_law_deck", fxGlo "_law_pick", fxGlo "_law_one", fxGlo "_law_readers", fxGlo "_law_body", fxGlo "_law_program", fxGlo "_law_inner", fxGlo "_law_item_text", fxGlo "_law_body_text", fxGlo "_law_text", fxGlo "_law_odd", fxGlo "_law_is_label", fxGlo "_law_are_readers", fxGlo "_law_is_mark", fxGlo "_law_is_simple", fxGlo "_law_size", fxGlo "_law_is_program", fxGlo "_law_read", fxGlo "_law_spoilt", fxGlo "law", fxStr "LETTERS" "abcdefghijklmnopqrstuvwxyz", fxTup "MODES" (["ahead", "one"].map fun z => He.Dv.str (Str.ofString z)), fxInt "MOST_DEEP" 8, fxInt "MOST_MARKS" 3, fxInt "MOST_READERS" 4, fxInt "MOST_STEPS" 40, fxInt "MOST_TAKE" 3, fxExc "InvalidText", fxGlo (Str.ofString "InvalidText"), fxGlo (Str.ofString "ReadError"), fxSub xsubL]
theorem txt_of {K : PySem.W.Frag} {h : Heap} {mg : Str → Option Value} (X : K.In h) (G : h.Ns mainGlobals mg) (c : SaysX fx fn K) : Txt K mg where
  b_all := He.free_ok X G (c.fact 0 (f := fxFree "all"))
  b_bool := He.free_ok X G (c.fact 1 (f := fxFree "bool"))
  b_int := He.free_ok X G (c.fact 2 (f := fxFree "int"))
  b_isinstance := He.free_ok X G (c.fact 3 (f := fxFree "isinstance"))
  b_len := He.free_ok X G (c.fact 4 (f := fxFree "len"))
  b_range := He.free_ok X G (c.fact 5 (f := fxFree "range"))
  b_set := He.free_ok X G (c.fact 6 (f := fxFree "set"))
  b_sorted := He.free_ok X G (c.fact 7 (f := fxFree "sorted"))
  b_str := He.free_ok X G (c.fact 8 (f := fxFree "str"))
  b_tuple := He.free_ok X G (c.fact 9 (f := fxFree "tuple"))
  b_zip := He.free_ok X G (c.fact 10 (f := fxFree "zip"))
  c_LETTERS := gl_str X G (z := "abcdefghijklmnopqrstuvwxyz") (c.fact 52)
  c_MODES := gl_tupS X G (zs := ["ahead", "one"]) (c.fact 53)
  c_MOST_DEEP := gl_int X G (c.fact 54)
  c_MOST_MARKS := gl_int X G (c.fact 55)
  c_MOST_READERS := gl_int X G (c.fact 56)
  c_MOST_STEPS := gl_int X G (c.fact 57)
  c_MOST_TAKE := gl_int X G (c.fact 58)
  x_InvalidText := ExF.of X G (c.fact 59)
  k_InvalidText := glo_cls X G (c.fact 60)
  k_ReadError := glo_cls X G (c.fact 61)
  x_sub := SubOk.of X G (l := xsubL) (c.fact 62)
theorem en_of {K : PySem.W.Frag} {h : Heap} {mg : Str → Option Value} (X : K.In h) (G : h.Ns mainGlobals mg) (c : SaysX fx fn K) : En K mg where
  txt := txt_of X G c
  e_is_whole := Dn.of X G (c.def_ 0 (d := defD "is_whole" s_is_whole)) (c.fact 11) fun _ _ _ _ _ _ us hl => match us, hl with | [_, _, _], _ => rfl
  e_is_label := Dn.of X G (c.def_ 1 (d := defD "is_label" s_is_label)) (c.fact 12) fun _ _ _ _ _ _ us hl => match us, hl with | [_], _ => rfl
  e_are_readers := Dn.of X G (c.def_ 2 (d := defD "are_readers" s_are_readers)) (c.fact 13) fun _ _ _ _ _ _ us hl => match us, hl with | [_], _ => rfl
  e_names_of := Dn.of X G (c.def_ 3 (d := defD "names_of" s_names_of)) (c.fact 14) fun _ _ _ _ _ _ us hl => match us, hl with | [_], _ => rfl
  e_is_name := Dn.of X G (c.def_ 4 (d := defD "is_name" s_is_name)) (c.fact 15) fun _ _ _ _ _ _ us hl => match us, hl with | [_, _], _ => rfl
  e_is_mark := Dn.of X G (c.def_ 5 (d := defD "is_mark" s_is_mark)) (c.fact 16) fun _ _ _ _ _ _ us hl => match us, hl with | [_], _ => rfl
  e_inner := Dn.of X G (c.def_ 6 (d := defD "inner" s_inner)) (c.fact 17) fun _ _ _ _ _ _ us hl => match us, hl with | [_], _ => rfl
  e_is_simple := Dn.of X G (c.def_ 7 (d := defD "is_simple" s_is_simple)) (c.fact 18) fun _ _ _ _ _ _ us hl => match us, hl with | [_, _], _ => rfl
  e_is_look := Dn.of X G (c.def_ 8 (d := defD "is_look" s_is_look)) (c.fact 19) fun _ _ _ _ _ _ us hl => match us, hl with | [_, _], _ => rfl
  e_size_of_item := Dn.of X G (c.def_ 9 (d := defD "size_of_item" s_size_of_item)) (c.fact 20) fun _ _ _ _ _ _ us hl => match us, hl with | [_, _, _], _ => rfl
  e_size_of := Dn.of X G (c.def_ 10 (d := defD "size_of" s_size_of)) (c.fact 21) fun _ _ _ _ _ _ us hl => match us, hl with | [_, _, _], _ => rfl
  e_marks_in := Dn.of X G (c.def_ 11 (d := defD "marks_in" s_marks_in)) (c.fact 22) fun _ _ _ _ _ _ us hl => match us, hl with | [_], _ => rfl
  e_is_program := Dn.of X G (c.def_ 12 (d := defD "is_program" s_is_program)) (c.fact 23) fun _ _ _ _ _ _ us hl => match us, hl with | [_], _ => rfl
  e_item_text := Dn.of X G (c.def_ 13 (d := defD "item_text" s_item_text)) (c.fact 24) fun _ _ _ _ _ _ us hl => match us, hl with | [_], _ => rfl
  e_body_text := Dn.of X G (c.def_ 14 (d := defD "body_text" s_body_text)) (c.fact 25) fun _ _ _ _ _ _ us hl => match us, hl with | [_], _ => rfl
  e_text_of := Dn.of X G (c.def_ 15 (d := defD "text_of" s_text_of)) (c.fact 26) fun _ _ _ _ _ _ us hl => match us, hl with | [_], _ => rfl
  e_cut_up := Dn.of X G (c.def_ 16 (d := defD "cut_up" s_cut_up)) (c.fact 27) fun _ _ _ _ _ _ us hl => match us, hl with | [_, _], _ => rfl
  e_head_in := Dn.of X G (c.def_ 17 (d := defD "head_in" s_head_in)) (c.fact 28) fun _ _ _ _ _ _ us hl => match us, hl with | [_], _ => rfl
  e_item_in := Dn.of X G (c.def_ 18 (d := defD "item_in" s_item_in)) (c.fact 29) fun _ _ _ _ _ _ us hl => match us, hl with | [_, _], _ => rfl
  e_body_in := Dn.of X G (c.def_ 19 (d := defD "body_in" s_body_in)) (c.fact 30) fun _ _ _ _ _ _ us hl => match us, hl with | [_, _], _ => rfl
  e_read_program := Dn.of X G (c.def_ 20 (d := defD "read_program" s_read_program)) (c.fact 31) fun _ _ _ _ _ _ us hl => match us, hl with | [_], _ => rfl
  e_law_deck := Dn.of X G (c.def_ 21 (d := defD "_law_deck" s_law_deck)) (c.fact 32) fun _ _ _ _ _ _ us hl => match us, hl with | [_, _], _ => rfl
  e_law_pick := Dn.of X G (c.def_ 22 (d := defD "_law_pick" s_law_pick)) (c.fact 33) fun _ _ _ _ _ _ us hl => match us, hl with | [_, _], _ => rfl
  e_law_one := Dn.of X G (c.def_ 23 (d := defD "_law_one" s_law_one)) (c.fact 34) fun _ _ _ _ _ _ us hl => match us, hl with | [_, _], _ => rfl
  e_law_readers := Dn.of X G (c.def_ 24 (d := defD "_law_readers" s_law_readers)) (c.fact 35) fun _ _ _ _ _ _ us hl => match us, hl with | [_], _ => rfl
  e_law_body := Dn.of X G (c.def_ 25 (d := defD "_law_body" s_law_body)) (c.fact 36) fun _ _ _ _ _ _ us hl => match us, hl with | [_, _, _, _], _ => rfl
  e_law_program := Dn.of X G (c.def_ 26 (d := defD "_law_program" s_law_program)) (c.fact 37) fun _ _ _ _ _ _ us hl => match us, hl with | [_, _], _ => rfl
  e_law_inner := Dn.of X G (c.def_ 27 (d := defD "_law_inner" s_law_inner)) (c.fact 38) fun _ _ _ _ _ _ us hl => match us, hl with | [_], _ => rfl
  e_law_item_text := Dn.of X G (c.def_ 28 (d := defD "_law_item_text" s_law_item_text)) (c.fact 39) fun _ _ _ _ _ _ us hl => match us, hl with | [_], _ => rfl
  e_law_body_text := Dn.of X G (c.def_ 29 (d := defD "_law_body_text" s_law_body_text)) (c.fact 40) fun _ _ _ _ _ _ us hl => match us, hl with | [_], _ => rfl
  e_law_text := Dn.of X G (c.def_ 30 (d := defD "_law_text" s_law_text)) (c.fact 41) fun _ _ _ _ _ _ us hl => match us, hl with | [_], _ => rfl
  e_law_odd := Dn.of X G (c.def_ 31 (d := defD "_law_odd" s_law_odd)) (c.fact 42) fun _ _ _ _ _ _ us hl => match us, hl with | [_], _ => rfl
  e_law_is_label := Dn.of X G (c.def_ 32 (d := defD "_law_is_label" s_law_is_label)) (c.fact 43) fun _ _ _ _ _ _ us hl => match us, hl with | [_], _ => rfl
  e_law_are_readers := Dn.of X G (c.def_ 33 (d := defD "_law_are_readers" s_law_are_readers)) (c.fact 44) fun _ _ _ _ _ _ us hl => match us, hl with | [_], _ => rfl
  e_law_is_mark := Dn.of X G (c.def_ 34 (d := defD "_law_is_mark" s_law_is_mark)) (c.fact 45) fun _ _ _ _ _ _ us hl => match us, hl with | [_, _], _ => rfl
  e_law_is_simple := Dn.of X G (c.def_ 35 (d := defD "_law_is_simple" s_law_is_simple)) (c.fact 46) fun _ _ _ _ _ _ us hl => match us, hl with | [_, _], _ => rfl
  e_law_size := Dn.of X G (c.def_ 36 (d := defD "_law_size" s_law_size)) (c.fact 47) fun _ _ _ _ _ _ us hl => match us, hl with | [_, _, _, _], _ => rfl
  e_law_is_program := Dn.of X G (c.def_ 37 (d := defD "_law_is_program" s_law_is_program)) (c.fact 48) fun _ _ _ _ _ _ us hl => match us, hl with | [_], _ => rfl
  e_law_read := Dn.of X G (c.def_ 38 (d := defD "_law_read" s_law_read)) (c.fact 49) fun _ _ _ _ _ _ us hl => match us, hl with | [_], _ => rfl
  e_law_spoilt := Dn.of X G (c.def_ 39 (d := defD "_law_spoilt" s_law_spoilt)) (c.fact 50) fun _ _ _ _ _ _ us hl => match us, hl with | [_, _], _ => rfl
  e_law := Dn.of X G (c.def_ 40 (d := defD "law" s_law)) (c.fact 51) fun _ _ _ _ _ _ us hl => match us, hl with | [_], _ => rfl
abbrev R : PySem.W.OpenRow := PySem.W.OpenLaw.row PySem.Challenge.rw_sharedreads_k16_spoilt_texts
abbrev hk : PySem.W.Hook := hookX 4 fx fn
def ob (s : PySem.W.SharedT) : He.AlD := obsXG 4 fx fn (HandSHeadRun.getT s)
theorem ob_eq (s : PySem.W.SharedT) : ob s = hk.obs s.abs := obsXG_eq (HandSHeadRun.getT_eq s)
def loose : List PySem.Str := (["ReadError", "InvalidText", "LETTERS", "MODES", "MOST_READERS", "MOST_MARKS", "MOST_STEPS", "MOST_DEEP", "MOST_TAKE", "is_whole", "is_label", "are_readers", "names_of", "is_name", "is_mark", "inner", "is_simple", "is_look", "size_of_item", "size_of", "marks_in", "is_program", "item_text", "body_text", "text_of", "cut_up", "head_in", "item_in", "body_in", "read_program"] : List PySem.Str) ++ (["_law_deck", "_law_pick", "_law_one", "_law_readers", "_law_body", "_law_program", "_law_inner", "_law_item_text", "_law_body_text", "_law_text", "_law_odd", "_law_is_label", "_law_are_readers", "_law_is_mark", "_law_is_simple", "_law_size", "_law_is_program", "_law_read", "_law_spoilt"] : List PySem.Str)
theorem run (w : World) : HandSHeadRun.RunEq R (PySem.W.view R.prog [53]) hk ob 4000 loose w := by
  intro os
  kernel_rfl
/-- the law's def keeps its promise: law_ok says it -/
theorem facts {P : Program} {w : World} {K : PySem.W.Frag} {h : Heap} {mg : Str → Option Value} {f : Addr} (X : K.In h) (G : h.Ns mainGlobals mg) (hfa : mg ("law" : Str) = some (.ref f)) (c : SaysX fx fn K) :
    ∃ fd : FuncData, (∀ (s : Shared) (v : Value), BindsTo s fd ⟨[v], []⟩ [("script", v)]) ∧ ∀ base : Heap, K.In base → base.Ns mainGlobals mg → FnOk P w K mg base CX0 kLaw f fd ["script"] (lSp K mg spLaw) := by
  obtain ⟨f2, fd, F, hm, _, hb⟩ := (en_of X G c).e_law
  have e := hfa.symm.trans hm
  cases e
  exact ⟨fd, fun s v => hb s [v] rfl, fun base _ _ => law_ok (en_of X G c) F⟩
end K01
open PySem PySem.W PySem.Calls PyProof.Rows
theorem PySem.Challenge.cw_sharedreads_k16_spoilt_texts_holds : PySem.Challenge.rw_sharedreads_k16_spoilt_texts.Holds := by
  w_on; o_law
  refine HandSHeadRun.head_any (r := OpenLaw.row PySem.Challenge.rw_sharedreads_k16_spoilt_texts) (q := view (OpenLaw.row PySem.Challenge.rw_sharedreads_k16_spoilt_texts).prog [53]) (H := K01.hk) (ob := K01.ob) (M := 4000) (loose := K01.loose) (d := HandSHeadRun.topDef (OpenLaw.row PySem.Challenge.rw_sharedreads_k16_spoilt_texts).prog 53) (kwd := []) K01.ob_eq
    (by kernel_rfl) (fun s => by kernel_rfl) K01.run (by kernel_rfl) (by kernel_rfl) (by kernel_rfl) (by rfl) (by first | assumption | decide +kernel) (by decide +kernel) ⟨rfl, rfl, rfl, rfl, rfl, by decide +kernel⟩ ?hw ?hc
  case hw => w_witness2
  case hc =>
    refine L2.walk_ofE (l := PySem.Challenge.rw_sharedreads_k16_spoilt_texts) (n := 63) (k := K01.kLaw) (x := "script") (CX := L2.CX0) rfl (by decide) (by kernel_rfl) ⟨rfl, by decide, by decide⟩ ?F (fun _ _ _ _ z => z)
    intro w mg fa h Y G hmg0
    obtain ⟨K, KX, c⟩ := Y
    have hmg : mg ("law" : PySem.Str) = some (.ref fa) := by
      have e : (HandSHeadRun.topDef (OpenLaw.row PySem.Challenge.rw_sharedreads_k16_spoilt_texts).prog 53).name = ("law" : PySem.Str) := by kernel_rfl
      rw [← e]
      exact hmg0
    obtain ⟨fd, hb, hF⟩ := K01.facts (P := (PySem.Challenge.rw_sharedreads_k16_spoilt_texts).prog) (w := w) KX G hmg c
    exact ⟨K, fd, DL.lSp K mg DL.spLaw, KX, hb, fun H a ns hl _ hS => DL.spLaw_of hl hS, hF⟩
