import PyProof.Rows.All
import Wide.All
import OpenK.AllK
import Wide.FinOn
import HandS.ForMost
import HandS.ForExc
import HandS.IsInst
import HandS.Deep
import HandS.TupAny
import HandS.Conv
import HandS.Flow
import HandS.Wide
import HandS.Zip
import HandS.TupLe
import HandS.TupLen
import KE.SortData
import PySem.Challenge.RW_hedgeways_k69_whole_labyrinths_listed
set_option Elab.async false
set_option linter.all false
set_option maxRecDepth 100000
set_option maxHeartbeats 2000000
namespace DL
open PySem PySem.Spec PyProof.Rows L2

/-- data: what a Python value is, as a tree -/
inductive D where
  | non | bl (b : Bool) | int (i : Int) | str (s : Str) | ty (n : String)
  | tup (xs : List D) | lst (xs : List D) | fz (xs : List D) | kt (xs : List D)
  | dk (ks : List Key) (xs : List D) | dt (ks : List (List Key)) (xs : List D)
  | ins (c : Str) (fs : List Str) (xs : List D)

/-- what a run gives: a value, an own exception by its class's name, nothing that is told -/
inductive R (a : Type) where
  | ok (x : a) | ex (c : Str) | no
def R.bind {a b : Type} (x : R a) (f : a → R b) : R b := match x with
  | .ok y => f y
  | .ex c => .ex c
  | .no => .no
instance : Monad R where
  pure := R.ok
  bind := R.bind
theorem nr {a : Type} {x y : a} (h : x = y) : x = y := h
@[simp] theorem R.pure_eq {a : Type} (x : a) : (pure x : R a) = .ok x := nr rfl
@[simp] theorem R.bind_ok {a b : Type} (x : a) (f : a → R b) : ((R.ok x) >>= f) = f x := nr rfl
@[simp] theorem R.bind_ex {a b : Type} (c : Str) (f : a → R b) : ((R.ex c : R a) >>= f) = .ex c := nr rfl
@[simp] theorem R.bind_no {a b : Type} (f : a → R b) : ((R.no : R a) >>= f) = .no := nr rfl

/-- a tuple of the written part -/
def KTup (K : PySem.W.Frag) (a : Addr) (xs : List V) : Prop :=
  ∃ (o : Obj) (its : Array Value) (n : Nat), K.lookup a = some o ∧ o.cls = .type "tuple" ∧ o.data = .seq its n ∧ its.size ≤ sizeLine ∧ Vals xs its.toList

/-- all that was tracked is as it was -/
abbrev Sm (H H' : Hp) : Prop := ∀ b o, H b = some o → H' b = some o
theorem Sm.refl (H : Hp) : Sm H H := fun _ _ h => h
theorem Sm.trans {H H1 H2 : Hp} (a : Sm H H1) (b : Sm H1 H2) : Sm H H2 := fun c o h => b c o (a c o h)
theorem Sm.new {H : Hp} {p : Addr} {o : HO} (h : H p = none) : Sm H (upd H p o) := fun a u e => by
  rw [upd_ne (ne_of_none e h)]; exact e
theorem Sm.back {H H' : Hp} {p : Addr} (e : Sm H H') (h : H' p = none) : H p = none := by
  cases h1 : H p with
  | none => rfl
  | some o => rw [e p o h1] at h; cases h

/-- a list of the top, or one that is held fast: it stays as it is -/
def FzL (K : PySem.W.Frag) (H : Hp) (a : Addr) (vs : List V) : Prop := (∃ o, H a = some (.frz o (.lst vs))) ∨ ∃ (o : Obj) (its : Array Value) (n : Nat), K.lookup a = some o ∧ o.cls = .type "list" ∧ o.dict = none ∧ o.data = .seq its n ∧ its.size ≤ sizeLine ∧ Vals vs its.toList
theorem FzL.sq {K : PySem.W.Frag} {H : Hp} {a : Addr} {vs : List V} (h : FzL K H a vs) : SqL K H a vs := by
  rcases h with ⟨o, h⟩ | h
  · exact .inl (.inr ⟨o, h⟩)
  · exact .inr h
section
variable (K : PySem.W.Frag) (mg : Str → Option Value) (H : Hp)
mutual
/-- v is d in H; fp: the objects that may be changed, from the left -/
def Val : D → V → List Addr → Prop
  | .non, v, fp => v = .non ∧ fp = []
  | .bl b, v, fp => v = .bl b ∧ fp = []
  | .int i, v, fp => v = .int i ∧ fp = []
  | .str x, v, fp => v = .str x ∧ fp = []
  | .ty n, v, fp => v = .ty n ∧ fp = []
  | .tup ds, v, fp => ∃ a vs, v = .ref a ∧ H a = some (.tup vs) ∧ VAll ds vs fp
  | .kt ds, v, fp => ∃ a vs, v = .ref a ∧ KTup K a vs ∧ VAll ds vs fp
  | .lst ds, v, fp => ∃ a vs f, v = .ref a ∧ fp = a :: f ∧ H a = some (.lst vs) ∧ VAll ds vs f
  | .fz ds, v, fp => ∃ a vs, v = .ref a ∧ FzL K H a vs ∧ VAll ds vs fp
  | .dk ks ds, v, fp => ∃ a kvs f, v = .ref a ∧ fp = a :: f ∧ Rd H a (.dK kvs) ∧ kvs.map (·.1) = ks ∧ VAll ds (kvs.map (·.2)) f
  | .dt ks ds, v, fp => ∃ a kvs f, v = .ref a ∧ fp = a :: f ∧ Rd H a (.dT kvs) ∧ kvs.map (·.1) = ks ∧ VAll ds (kvs.map (·.2)) f
  | .ins c fs ds, v, fp => ∃ a C dx kvs f, v = .ref a ∧ fp = a :: f ∧ mg c = some (.ref C) ∧ H a = some (.ins C dx kvs) ∧ kvs.map (·.1) = fs ∧ VAll ds (kvs.map (·.2)) f
def VAll : List D → List V → List Addr → Prop
  | [], vs, fp => vs = [] ∧ fp = []
  | d :: ds, vs, fp => ∃ v vr f g, vs = v :: vr ∧ fp = f ++ g ∧ Val d v f ∧ VAll ds vr g
end
end

mutual
/-- nothing in it can be changed -/
def imm : D → Bool
  | .non => true
  | .bl _ => true
  | .int _ => true
  | .str _ => true
  | .ty _ => true
  | .tup ds => immAll ds
  | .kt ds => immAll ds
  | .lst _ => false
  | .fz _ => false
  | .dk _ _ => false
  | .dt _ _ => false
  | .ins _ _ _ => false
def immAll : List D → Bool
  | [] => true
  | d :: ds => imm d && immAll ds
end

/-- what Val leans on stays -/
structure Kp (fp : List Addr) (H H' : Hp) : Prop where
  rd : ∀ b u, b ∈ fp → Rd H b u → Rd H' b u
  lst : ∀ b vs, b ∈ fp → H b = some (.lst vs) → H' b = some (.lst vs)
  fz : ∀ b o vs, H b = some (.frz o (.lst vs)) → H' b = some (.frz o (.lst vs))
  ins : ∀ b C dx fs, b ∈ fp → H b = some (.ins C dx fs) → H' b = some (.ins C dx fs)
  tup : ∀ b xs, H b = some (.tup xs) → H' b = some (.tup xs)
theorem Sm.rd {H H' : Hp} (e : Sm H H') {b : Addr} {u : HO} (h : Rd H b u) : Rd H' b u := by
  rcases h with h | ⟨o, h⟩
  · exact .inl (e _ _ h)
  · exact .inr ⟨o, e _ _ h⟩
theorem Sm.kp {H H' : Hp} (e : Sm H H') (fp : List Addr) : Kp fp H H' := ⟨fun _ _ _ h => e.rd h, fun _ _ _ h => e _ _ h, fun _ _ _ h => e _ _ h, fun _ _ _ _ _ h => e _ _ h, fun _ _ h => e _ _ h⟩
theorem Kp.sub {fp f : List Addr} {H H' : Hp} (k : Kp fp H H') (h : ∀ a ∈ f, a ∈ fp) : Kp f H H' :=
  ⟨fun b u hb => k.rd b u (h b hb), fun b vs hb => k.lst b vs (h b hb), k.fz, fun b C dx fs hb => k.ins b C dx fs (h b hb), k.tup⟩
theorem Kp.upd {fp : List Addr} {H : Hp} {a : Addr} {o : HO} (ha : a ∉ fp) (ht : ∀ xs, H a ≠ some (.tup xs)) (hf : ∀ o xs, H a ≠ some (.frz o xs)) : Kp fp H (upd H a o) :=
  ⟨fun b u hb h => by
    have e : b ≠ a := fun z => ha (z ▸ hb)
    rcases h with h | ⟨o', h⟩
    · exact .inl (by rw [upd_ne e]; exact h)
    · exact .inr ⟨o', by rw [upd_ne e]; exact h⟩,
   fun b vs hb h => by
    have e : b ≠ a := fun z => ha (z ▸ hb)
    rw [upd_ne e]; exact h,
   fun b o vs h => by
    have e : b ≠ a := fun z => by subst z; exact hf _ _ h
    rw [upd_ne e]; exact h,
   fun b C dx fs hb h => by
    have e : b ≠ a := fun z => ha (z ▸ hb)
    rw [upd_ne e]; exact h,
   fun b xs h => by
    have e : b ≠ a := fun z => by subst z; exact ht xs h
    rw [upd_ne e]; exact h⟩
section
variable {K : PySem.W.Frag} {mg : Str → Option Value} {H H' : Hp}
mutual
theorem Val.kp : ∀ (d : D) {v : V} {fp : List Addr}, Val K mg H d v fp → Kp fp H H' → Val K mg H' d v fp
  | .non, v, fp, h, k => by simpa [Val] using h
  | .bl b, v, fp, h, k => by simpa [Val] using h
  | .int i, v, fp, h, k => by simpa [Val] using h
  | .str x, v, fp, h, k => by simpa [Val] using h
  | .ty n, v, fp, h, k => by simpa [Val] using h
  | .tup ds, v, fp, h, k => by
    simp only [Val] at h ⊢
    obtain ⟨a, vs, e, t, q⟩ := h
    exact ⟨a, vs, e, k.tup _ _ t, VAll.kp ds q k⟩
  | .kt ds, v, fp, h, k => by
    simp only [Val] at h ⊢
    obtain ⟨a, vs, e, t, q⟩ := h
    exact ⟨a, vs, e, t, VAll.kp ds q k⟩
  | .fz ds, v, fp, h, k => by
    simp only [Val] at h ⊢
    obtain ⟨a, vs, e, t, q⟩ := h
    exact ⟨a, vs, e, t.imp (fun ⟨o, z⟩ => ⟨o, k.fz _ _ _ z⟩) id, VAll.kp ds q k⟩
  | .lst ds, v, fp, h, k => by
    simp only [Val] at h ⊢
    obtain ⟨a, vs, f, e, ef, t, q⟩ := h
    exact ⟨a, vs, f, e, ef, k.lst _ _ (by rw [ef]; exact List.mem_cons_self) t, VAll.kp ds q (k.sub fun b hb => by rw [ef]; exact List.mem_cons_of_mem _ hb)⟩
  | .dk ks ds, v, fp, h, k => by
    simp only [Val] at h ⊢
    obtain ⟨a, kvs, f, e, ef, t, hk, q⟩ := h
    exact ⟨a, kvs, f, e, ef, k.rd _ _ (by rw [ef]; exact List.mem_cons_self) t, hk, VAll.kp ds q (k.sub fun b hb => by rw [ef]; exact List.mem_cons_of_mem _ hb)⟩
  | .dt ks ds, v, fp, h, k => by
    simp only [Val] at h ⊢
    obtain ⟨a, kvs, f, e, ef, t, hk, q⟩ := h
    exact ⟨a, kvs, f, e, ef, k.rd _ _ (by rw [ef]; exact List.mem_cons_self) t, hk, VAll.kp ds q (k.sub fun b hb => by rw [ef]; exact List.mem_cons_of_mem _ hb)⟩
  | .ins c fs ds, v, fp, h, k => by
    simp only [Val] at h ⊢
    obtain ⟨a, C, dx, kvs, f, e, ef, m, t, hk, q⟩ := h
    exact ⟨a, C, dx, kvs, f, e, ef, m, k.ins _ _ _ _ (by rw [ef]; exact List.mem_cons_self) t, hk, VAll.kp ds q (k.sub fun b hb => by rw [ef]; exact List.mem_cons_of_mem _ hb)⟩
theorem VAll.kp : ∀ (ds : List D) {vs : List V} {fp : List Addr}, VAll K mg H ds vs fp → Kp fp H H' → VAll K mg H' ds vs fp
  | [], vs, fp, h, k => by simpa [VAll] using h
  | d :: ds, vs, fp, h, k => by
    simp only [VAll] at h ⊢
    obtain ⟨v, vr, f, g, e, ef, h1, h2⟩ := h
    exact ⟨v, vr, f, g, e, ef, Val.kp d h1 (k.sub fun b hb => by rw [ef]; exact List.mem_append_left _ hb), VAll.kp ds h2 (k.sub fun b hb => by rw [ef]; exact List.mem_append_right _ hb)⟩
end
theorem Val.sm {d : D} {v : V} {fp : List Addr} (h : Val K mg H d v fp) (e : Sm H H') : Val K mg H' d v fp := Val.kp d h (e.kp _)
theorem VAll.sm {d : List D} {v : List V} {fp : List Addr} (h : VAll K mg H d v fp) (e : Sm H H') : VAll K mg H' d v fp := VAll.kp d h (e.kp _)
mutual
theorem Val.imm : ∀ (d : D) {v : V} {fp : List Addr}, Val K mg H d v fp → imm d = true → fp = []
  | .non, v, fp, h, k => by simp only [Val] at h; exact h.2
  | .bl b, v, fp, h, k => by simp only [Val] at h; exact h.2
  | .int i, v, fp, h, k => by simp only [Val] at h; exact h.2
  | .str x, v, fp, h, k => by simp only [Val] at h; exact h.2
  | .ty n, v, fp, h, k => by simp only [Val] at h; exact h.2
  | .tup ds, v, fp, h, k => by
    simp only [Val] at h
    obtain ⟨a, vs, e, t, q⟩ := h
    exact VAll.imm ds q (by simpa [DL.imm] using k)
  | .kt ds, v, fp, h, k => by
    simp only [Val] at h
    obtain ⟨a, vs, e, t, q⟩ := h
    exact VAll.imm ds q (by simpa [DL.imm] using k)
  | .lst ds, v, fp, h, k => by simp [DL.imm] at k
  | .fz ds, v, fp, h, k => by simp [DL.imm] at k
  | .dk ks ds, v, fp, h, k => by simp [DL.imm] at k
  | .dt ks ds, v, fp, h, k => by simp [DL.imm] at k
  | .ins c fs ds, v, fp, h, k => by simp [DL.imm] at k
theorem VAll.imm : ∀ (ds : List D) {vs : List V} {fp : List Addr}, VAll K mg H ds vs fp → immAll ds = true → fp = []
  | [], vs, fp, h, k => by simp only [VAll] at h; exact h.2
  | d :: ds, vs, fp, h, k => by
    simp only [VAll] at h
    obtain ⟨v, vr, f, g, e, ef, h1, h2⟩ := h
    have k' : DL.imm d = true ∧ immAll ds = true := by simpa [immAll] using k
    rw [ef, Val.imm d h1 k'.1, VAll.imm ds h2 k'.2]; rfl
end
mutual
theorem Val.dom : ∀ (d : D) {v : V} {fp : List Addr}, Val K mg H d v fp → ∀ a ∈ fp, ∃ o, H a = some o ∧ ∀ xs, o ≠ .tup xs
  | .non, v, fp, h => by simp only [Val] at h; simp [h.2]
  | .bl b, v, fp, h => by simp only [Val] at h; simp [h.2]
  | .int i, v, fp, h => by simp only [Val] at h; simp [h.2]
  | .str x, v, fp, h => by simp only [Val] at h; simp [h.2]
  | .ty n, v, fp, h => by simp only [Val] at h; simp [h.2]
  | .tup ds, v, fp, h => by
    simp only [Val] at h
    obtain ⟨a, vs, e, t, q⟩ := h
    exact VAll.dom ds q
  | .kt ds, v, fp, h => by
    simp only [Val] at h
    obtain ⟨a, vs, e, t, q⟩ := h
    exact VAll.dom ds q
  | .lst ds, v, fp, h => by
    simp only [Val] at h
    obtain ⟨a, vs, f, e, ef, t, q⟩ := h
    intro b hb
    rw [ef] at hb
    rcases List.mem_cons.mp hb with z | z
    · subst z
      exact ⟨_, t, fun _ z => nomatch z⟩
    · exact VAll.dom ds q b z
  | .fz ds, v, fp, h => by
    simp only [Val] at h
    obtain ⟨a, vs, e, t, q⟩ := h
    exact VAll.dom ds q
  | .dk ks ds, v, fp, h => by
    simp only [Val] at h
    obtain ⟨a, kvs, f, e, ef, t, hk, q⟩ := h
    intro b hb
    rw [ef] at hb
    rcases List.mem_cons.mp hb with z | z
    · subst z
      rcases t with t | ⟨o, t⟩
      · exact ⟨_, t, fun _ z => nomatch z⟩
      · exact ⟨_, t, fun _ z => nomatch z⟩
    · exact VAll.dom ds q b z
  | .dt ks ds, v, fp, h => by
    simp only [Val] at h
    obtain ⟨a, kvs, f, e, ef, t, hk, q⟩ := h
    intro b hb
    rw [ef] at hb
    rcases List.mem_cons.mp hb with z | z
    · subst z
      rcases t with t | ⟨o, t⟩
      · exact ⟨_, t, fun _ z => nomatch z⟩
      · exact ⟨_, t, fun _ z => nomatch z⟩
    · exact VAll.dom ds q b z
  | .ins c fs ds, v, fp, h => by
    simp only [Val] at h
    obtain ⟨a, C, dx, kvs, f, e, ef, m, t, hk, q⟩ := h
    intro b hb
    rw [ef] at hb
    rcases List.mem_cons.mp hb with z | z
    · subst z; exact ⟨_, t, fun _ z => nomatch z⟩
    · exact VAll.dom ds q b z
theorem VAll.dom : ∀ (ds : List D) {vs : List V} {fp : List Addr}, VAll K mg H ds vs fp → ∀ a ∈ fp, ∃ o, H a = some o ∧ ∀ xs, o ≠ .tup xs
  | [], vs, fp, h => by simp only [VAll] at h; simp [h.2]
  | d :: ds, vs, fp, h => by
    simp only [VAll] at h
    obtain ⟨v, vr, f, g, e, ef, h1, h2⟩ := h
    intro b hb
    rw [ef] at hb
    rcases List.mem_append.mp hb with z | z
    · exact Val.dom d h1 b z
    · exact VAll.dom ds h2 b z
end
theorem Val.gone {d : D} {v : V} {fp : List Addr} (h : Val K mg H d v fp) {a : Addr} (ha : a ∈ fp) (n : H a = none) : False := by
  obtain ⟨o, e, _⟩ := Val.dom d h a ha
  rw [n] at e; cases e
/-! ### lists of values -/
theorem VAll.nil : VAll K mg H [] [] [] := by simp [VAll]
theorem VAll.cons {d : D} {v : V} {f : List Addr} {ds : List D} {vs : List V} {g : List Addr} (h : Val K mg H d v f) (t : VAll K mg H ds vs g) : VAll K mg H (d :: ds) (v :: vs) (f ++ g) := by
  simp only [VAll]; exact ⟨v, vs, f, g, rfl, rfl, h, t⟩
theorem VAll.length : ∀ {ds : List D} {vs : List V} {f : List Addr}, VAll K mg H ds vs f → vs.length = ds.length
  | [], vs, f, h => by simp only [VAll] at h; rw [h.1]; rfl
  | d :: ds, vs, f, h => by
    simp only [VAll] at h
    obtain ⟨v, vr, f, g, e, ef, h1, h2⟩ := h
    rw [e]; simp [VAll.length h2]
theorem VAll.append : ∀ {ds : List D} {vs : List V} {f : List Addr} {es : List D} {us : List V} {g : List Addr}, VAll K mg H ds vs f → VAll K mg H es us g → VAll K mg H (ds ++ es) (vs ++ us) (f ++ g)
  | [], vs, f, es, us, g, h, k => by simp only [VAll] at h; rw [h.1, h.2]; exact k
  | d :: ds, vs, f, es, us, g, h, k => by
    simp only [VAll] at h
    obtain ⟨v, vr, f1, g1, e, ef, h1, h2⟩ := h
    rw [e, ef]
    simp only [List.cons_append, List.append_assoc]
    exact .cons h1 (VAll.append h2 k)
theorem VAll.one {d : D} {v : V} {f : List Addr} (h : Val K mg H d v f) : VAll K mg H [d] [v] f := by
  have q := VAll.cons h VAll.nil
  rw [List.append_nil] at q
  exact q
theorem VAll.get : ∀ {ds : List D} {vs : List V} {f : List Addr} {i : Nat} {d : D}, VAll K mg H ds vs f → ds[i]? = some d → ∃ v g, vs[i]? = some v ∧ Val K mg H d v g ∧ ∀ a ∈ g, a ∈ f
  | [], vs, f, i, d, h, e => by simp at e
  | d0 :: ds, vs, f, i, d, h, e => by
    simp only [VAll] at h
    obtain ⟨v, vr, f1, g1, ev, ef, h1, h2⟩ := h
    rw [ev, ef]
    cases i with
    | zero =>
      have e' : d0 = d := by simpa using e
      subst e'
      exact ⟨v, f1, rfl, h1, fun a ha => List.mem_append_left _ ha⟩
    | succ i =>
      obtain ⟨u, g, h3, h4, h5⟩ := VAll.get (i := i) (d := d) h2 (by simpa using e)
      exact ⟨u, g, by simpa using h3, h4, fun a ha => List.mem_append_right _ (h5 a ha)⟩
theorem VAll.getV {ds : List D} {vs : List V} {f : List Addr} {i : Nat} {v : V} (h : VAll K mg H ds vs f) (e : vs[i]? = some v) : ∃ d g, ds[i]? = some d ∧ Val K mg H d v g ∧ ∀ a ∈ g, a ∈ f := by
  have hl : i < ds.length := by rw [← h.length]; exact (List.getElem?_eq_some_iff.mp e).1
  have hd : ds[i]? = some ds[i] := List.getElem?_eq_getElem hl
  obtain ⟨u, g, h1, h2, h3⟩ := h.get hd
  rw [e] at h1; cases h1
  exact ⟨_, g, hd, h2, h3⟩
/-- a part of it -/
theorem VAll.take : ∀ {ds : List D} {vs : List V} {f : List Addr} (n : Nat), VAll K mg H ds vs f → ∃ g g', VAll K mg H (ds.take n) (vs.take n) g ∧ VAll K mg H (ds.drop n) (vs.drop n) g' ∧ f = g ++ g'
  | ds, vs, f, 0, h => ⟨[], f, by simpa using VAll.nil, by simpa using h, rfl⟩
  | [], vs, f, n + 1, h => by
    simp only [VAll] at h
    exact ⟨[], [], by rw [h.1]; simpa using VAll.nil, by rw [h.1]; simpa using VAll.nil, by rw [h.2]; rfl⟩
  | d :: ds, vs, f, n + 1, h => by
    simp only [VAll] at h
    obtain ⟨v, vr, f1, g1, ev, ef, h1, h2⟩ := h
    obtain ⟨g, g', q1, q2, q3⟩ := VAll.take n h2
    refine ⟨f1 ++ g, g', ?_, ?_, by rw [ef, q3, List.append_assoc]⟩
    · rw [ev]; exact .cons h1 q1
    · rw [ev]; exact q2
end
end DL
set_option Elab.async false
set_option linter.all false
set_option maxRecDepth 100000
set_option maxHeartbeats 2000000
namespace DL
open PySem PySem.Spec PyProof.Rows L2

/-- a slot: empty, a value that others may hold too, a value that is the slot's own -/
inductive Sl where
  | un | sh (d : D) | ow (d : D)
@[simp] def Sl.val : Sl → Option D
  | .un => none
  | .sh d => some d
  | .ow d => some d
abbrev En := List Sl
def look (env : En) (i : Nat) : Option D := (env[i]?).bind Sl.val

def R.of {a : Type} : Option a → R a
  | some x => .ok x
  | none => .no
@[simp] theorem R.of_some {a : Type} (x : a) : R.of (some x) = .ok x := nr rfl
@[simp] theorem R.of_none {a : Type} : R.of (none : Option a) = .no := nr rfl

section
variable (K : PySem.W.Frag) (mg : Str → Option Value)
/-- the slots hold env; what may be changed of it is within S -/
structure PEnv (S : Addr → Prop) (env : En) (σ : L2.St) (H : Hp) : Prop where
  len : env.length = σ.length
  val : ∀ i d, look env i = some d → ∃ v fp, σ[i]? = some (some v) ∧ Val K mg H d v fp ∧ ∀ a ∈ fp, S a
def Out (W : WX) (σ : L2.St) (H : Hp) {a : Type} (r : R a) (k : a → Prop) : Prop := match r with
  | .ok x => k x
  | .ex c => ∀ C H', mg c = some (.ref C) → Sm H H' → W (.ref C) none σ H'
  | .no => False
def After (S : Addr → Prop) (H : Hp) (d : D) (Q : VK) : Prop := ∀ v H' fp, Sm H H' → Val K mg H' d v fp → (∀ a ∈ fp, S a ∨ H a = none) → Q v H'
def AfterL (S : Addr → Prop) (H : Hp) (ds : List D) (Q : List V → Hp → Prop) : Prop := ∀ vs H' fp, Sm H H' → VAll K mg H' ds vs fp → (∀ a ∈ fp, S a ∨ H a = none) → Q vs H'
/-- a fresh value: nothing of it was there -/
def AfterF (H : Hp) (d : D) (Q : VK) : Prop := ∀ v H' fp, Sm H H' → Val K mg H' d v fp → fp.Nodup → (∀ a ∈ fp, H a = none ∧ Mut (H' a)) → Q v H'
def tE (W : WX) (f : En → R D) : TE := fun σ H Q => ∃ S env, PEnv K mg S env σ H ∧ Out mg W σ H (f env) fun d => After K mg S H d Q
def tF (W : WX) (f : En → R D) : TE := fun σ H Q => ∃ S env, PEnv K mg S env σ H ∧ Out mg W σ H (f env) fun d => AfterF K mg H d Q
def tT (W : WX) (f : En → R Bool) : TT := fun σ H Q => ∃ S env, PEnv K mg S env σ H ∧ Out mg W σ H (f env) fun b => ∀ H', Sm H H' → Q b H'
def tA (W : WX) (f : En → R (List D)) : TA := fun σ H Q => ∃ S env, PEnv K mg S env σ H ∧ Out mg W σ H (f env) fun ds => AfterL K mg S H ds Q
end
/-- e computes f -/
abbrev DE (X : Cx) (W : WX) (e : Expr) (f : En → R D) : Prop := PE X e (tE X.K X.mg W f)
abbrev DF (X : Cx) (W : WX) (e : Expr) (f : En → R D) : Prop := PE X e (tF X.K X.mg W f)
abbrev DT (X : Cx) (W : WX) (e : Expr) (f : En → R Bool) : Prop := PT X e (tT X.K X.mg W f)
abbrev DA (X : Cx) (W : WX) (es : List Expr) (f : En → R (List D)) : Prop := PA X es (tA X.K X.mg W f)

theorem pe_weak {X : Cx} {e : Expr} {t t' : TE} (h : PE X e t) (w : ∀ σ H Q, t' σ H Q → t σ H Q) : PE X e t' := ⟨fun pins s σ H Q I q => h.run pins s σ H Q I (w σ H Q q)⟩
theorem pt_weak {X : Cx} {e : Expr} {t t' : TT} (h : PT X e t) (w : ∀ σ H Q, t' σ H Q → t σ H Q) : PT X e t' := ⟨fun pins s σ H Q I q => h.run pins s σ H Q I (w σ H Q q)⟩
theorem pa_weak {X : Cx} {e : List Expr} {t t' : TA} (h : PA X e t) (w : ∀ σ H Q, t' σ H Q → t σ H Q) : PA X e t' := ⟨fun pos pins s σ H Q I q => h.run pos pins s σ H Q I (w σ H Q q)⟩

section
variable {K : PySem.W.Frag} {mg : Str → Option Value} {S : Addr → Prop} {env : En} {σ : L2.St} {H H' : Hp} {W : WX}
theorem PEnv.sm (P : PEnv K mg S env σ H) (e : Sm H H') : PEnv K mg S env σ H' := ⟨P.len, fun i d h => by
  obtain ⟨v, fp, h1, h2, h3⟩ := P.val i d h
  exact ⟨v, fp, h1, h2.sm e, h3⟩⟩
theorem PEnv.wide {S' : Addr → Prop} (P : PEnv K mg S env σ H) (w : ∀ a, S a → S' a) : PEnv K mg S' env σ H := ⟨P.len, fun i d h => by
  obtain ⟨v, fp, h1, h2, h3⟩ := P.val i d h
  exact ⟨v, fp, h1, h2, fun a ha => w a (h3 a ha)⟩⟩
theorem Out.sm {a : Type} {r : R a} {k : a → Prop} (h : Out mg W σ H r k) (e : Sm H H') : Out mg W σ H' r k := by
  cases r with
  | ok x => exact h
  | ex c => exact fun C H2 m q => h C H2 m (e.trans q)
  | no => exact h
theorem Out.imp {a : Type} {r : R a} {k k' : a → Prop} (h : Out mg W σ H r k) (w : ∀ x, k x → k' x) : Out mg W σ H r k' := by
  cases r with
  | ok x => exact w x h
  | ex c => exact h
  | no => exact h
/-- the first part of two -/
theorem Out.bind {a b : Type} {r : R a} {g : a → R b} {k : b → Prop} (h : Out mg W σ H (r >>= g) k) : Out mg W σ H r fun x => Out mg W σ H (g x) k := by
  cases r with
  | ok x => exact h
  | ex c => exact h
  | no => exact h
theorem Out.of {a : Type} {o : Option a} {k : a → Prop} (h : Out mg W σ H (R.of o) k) : ∃ x, o = some x ∧ k x := by
  cases o with
  | none => exact h.elim
  | some x => exact ⟨x, rfl, h⟩
theorem Out.ok_of {a : Type} {x : a} {k : a → Prop} (h : Out mg W σ H (R.ok x) k) : k x := h

/-! ### steps of readings -/
theorem stE {f : En → R D} {b : Type} {g : D → R b} {k : b → Prop} {Q : VK} (P : PEnv K mg S env σ H) (h : Out mg W σ H (f env >>= g) k)
    (n : ∀ d v H' fp, Sm H H' → Val K mg H' d v fp → (∀ a ∈ fp, S a ∨ H a = none) → Out mg W σ H' (g d) k → Q v H') : tE K mg W f σ H Q :=
  ⟨S, env, P, h.bind.imp fun d q v H' fp e hv hp => n d v H' fp e hv hp (q.sm e)⟩
theorem stT {f : En → R Bool} {b : Type} {g : Bool → R b} {k : b → Prop} {Q : Bool → Hp → Prop} (P : PEnv K mg S env σ H) (h : Out mg W σ H (f env >>= g) k)
    (n : ∀ d H', Sm H H' → Out mg W σ H' (g d) k → Q d H') : tT K mg W f σ H Q :=
  ⟨S, env, P, h.bind.imp fun d q H' e => n d H' e (q.sm e)⟩
theorem stA {f : En → R (List D)} {b : Type} {g : List D → R b} {k : b → Prop} {Q : List V → Hp → Prop} (P : PEnv K mg S env σ H) (h : Out mg W σ H (f env >>= g) k)
    (n : ∀ d v H' fp, Sm H H' → VAll K mg H' d v fp → (∀ a ∈ fp, S a ∨ H a = none) → Out mg W σ H' (g d) k → Q v H') : tA K mg W f σ H Q :=
  ⟨S, env, P, h.bind.imp fun d q v H' fp e hv hp => n d v H' fp e hv hp (q.sm e)⟩
theorem enE {f : En → R D} {Q : VK} (P : PEnv K mg S env σ H) (h : Out mg W σ H (f env) fun d => After K mg S H d Q) : tE K mg W f σ H Q := ⟨S, env, P, h⟩
/-- provenance seen from ahead -/
theorem prov {fp : List Addr} {H1 : Hp} (e : Sm H H1) (h : ∀ a ∈ fp, S a ∨ H1 a = none) : ∀ a ∈ fp, S a ∨ H a = none := fun a ha => (h a ha).imp id fun z => e.back z
theorem After.sm {d : D} {Q : VK} (h : After K mg S H d Q) (e : Sm H H') : After K mg S H' d Q := fun v H2 fp e2 hv hp => h v H2 fp (e.trans e2) hv (prov e hp)
end

/-! ### names and constants -/
section
variable {X : Cx} {W : WX}
def eVar (i : Nat) (env : En) : R D := R.of (look env i)
def eC (d : D) (_ : En) : R D := .ok d
theorem de_var {i : Nat} {x : Str} {pos : Pos} (h : PE X (.Name x pos) (tVar i)) : DE X W (.Name x pos) (eVar i) := pe_weak h fun σ H Q ⟨S, env, P, q⟩ => by
  obtain ⟨d, e, q⟩ := Out.of q
  obtain ⟨v, fp, h1, h2, h3⟩ := P.val i d e
  exact ⟨v, h1, q v H fp (Sm.refl H) h2 fun a ha => .inl (h3 a ha)⟩
/-- a value that stands in no heap -/
theorem de_c {e : Expr} {v : V} {d : D} (h : PE X e (tC v)) (hv : ∀ H, Val X.K X.mg H d v []) : DE X W e (eC d) := pe_weak h fun σ H Q ⟨S, env, P, q⟩ =>
  q v H [] (Sm.refl H) (hv H) (by simp)
theorem de_int {i j pos} : DE X W (.Constant (.int i) j pos) (eC (.int i)) := de_c pe_int fun H => by simp [Val]
theorem de_bl {b j pos} : DE X W (.Constant (.bool b) j pos) (eC (.bl b)) := de_c pe_bl fun H => by simp [Val]
theorem de_non {j pos} : DE X W (.Constant .none j pos) (eC .non) := de_c pe_non fun H => by simp [Val]
theorem de_str {x j pos} : DE X W (.Constant (.str x) j pos) (eC (.str x)) := de_c pe_str fun H => by simp [Val]
/-- a module's constant -/
theorem de_glob {x : Str} {v : V} {u : Value} {pos : Pos} {d : D} (hm : X.mg x = some u) (r : RelV v u) (hv : ∀ H, Val X.K X.mg H d v []) (hg : Gl X x := by rfl) (hd : (x == ("__debug__" : Str)) = false := by decide) : DE X W (.Name x pos) (eC d) :=
  de_c (pe_glob hg hm r hd) hv
theorem de_ty {x : Str} {n : String} {pos : Pos} (hm : X.mg x = none) (hv : bootBuiltins x = some (.type n)) (hg : Gl X x := by rfl) (hn : x ≠ "__name__" := by decide) (hd : (x == ("__debug__" : Str)) = false := by decide) : DE X W (.Name x pos) (eC (.ty n)) :=
  de_c (pe_bltn hg hm hv (v := .ty n) rfl hn hd) fun H => by simp [Val]

/-- fresh is a kind of any -/
theorem DF.de {e : Expr} {f : En → R D} (h : DF X W e f) : DE X W e f := pe_weak h fun σ H Q ⟨S, env, P, q⟩ => ⟨S, env, P, q.imp fun d q v H' fp e hv _ hp => q v H' fp e hv fun a ha => .inr (hp a ha).1⟩
/-- what can't be changed is fresh -/
def eImm (f : En → R D) (env : En) : R D := f env >>= fun d => R.of (if imm d = true then some d else none)
theorem df_imm {e : Expr} {f : En → R D} (h : DE X W e f) : DF X W e (eImm f) := pe_weak h fun σ H Q ⟨S, env, P, q⟩ => by
  refine stE P q fun d v H' fp e hv hp q => ?_
  obtain ⟨d', e1, q⟩ := Out.of q
  split at e1
  · rename_i hi
    cases e1
    have hf := Val.imm d hv hi
    subst hf
    exact q v H' [] e hv List.nodup_nil (by simp)
  · cases e1

/-! ### arguments -/
def eNil (_ : En) : R (List D) := .ok []
def eCons (f : En → R D) (g : En → R (List D)) (env : En) : R (List D) := f env >>= fun d => g env >>= fun ds => .ok (d :: ds)
theorem da_nil : DA X W [] eNil := pa_weak pa_nil fun σ H Q ⟨S, env, P, q⟩ => q [] H [] (Sm.refl H) VAll.nil (by simp)
theorem da_cons {e : Expr} {es : List Expr} {f : En → R D} {g : En → R (List D)} (h : DE X W e f) (t : DA X W es g) (he : starEach (e :: es) X.env = (false, eval e X.env) :: starEach es X.env := by rfl) : DA X W (e :: es) (eCons f g) :=
  pa_weak (pa_cons h t he) fun σ H Q ⟨S, env, P, q⟩ => by
    refine stE P q fun d v H1 fp e hv hp q => stA (P.sm e) q fun ds vs H2 fq e2 hvs hq q => ?_
    exact q (v :: vs) H2 (fp ++ fq) (e.trans e2) (.cons (hv.sm e2) hvs) fun a ha => (List.mem_append.mp ha).elim (hp a) fun z => (hq a z).imp id fun z => e.back z

/-! ### two-place operations -/
def rD (K : PySem.W.Frag) (mg : Str → Option Value) (F : D → D → Option D) : R2 := fun x y H Q => ∃ dx dy fx fy, Val K mg H dx x fx ∧ Val K mg H dy y fy ∧ ∃ d, F dx dy = some d ∧
  ∀ v H' fp, Sm H H' → Val K mg H' d v fp → (∀ a ∈ fp, a ∈ fx ∨ a ∈ fy ∨ H a = none) → Q v H'
def eOp (F : D → D → Option D) (f g : En → R D) (env : En) : R D := f env >>= fun x => g env >>= fun y => R.of (F x y)
theorem st_op {F : D → D → Option D} {f g : En → R D} {K : PySem.W.Frag} {mg : Str → Option Value} {W : WX} {σ : L2.St} {H : Hp} {Q : VK} (h : tE K mg W (eOp F f g) σ H Q) : tOp (rD K mg F) (tE K mg W f) (tE K mg W g) σ H Q := by
  obtain ⟨S, env, P, q⟩ := h
  refine stE P q fun d v H1 fp e hv hp q => stE (P.sm e) q fun d2 v2 H2 fp2 e2 hv2 hp2 q => ?_
  obtain ⟨r, er, q⟩ := Out.of q
  exact ⟨d, d2, fp, fp2, hv.sm e2, hv2, r, er, fun z H3 f3 e3 h3 p3 => q z H3 f3 ((e.trans e2).trans e3) h3 fun a ha => by
    rcases p3 a ha with z | z | z
    · exact hp a z
    · exact (hp2 a z).imp id fun z => e.back z
    · exact .inr (e.back (e2.back z))⟩
theorem de_bin {F : D → D → Option D} {op : Operator} {a b : Expr} {pos : Pos} {f g : En → R D} (ho : OpR X (binaryOp op) (rD X.K X.mg F)) (ha : DE X W a f) (hb : DE X W b g) : DE X W (.BinOp a op b pos) (eOp F f g) :=
  pe_weak (pe_op ho ha hb) fun _ _ _ => st_op
theorem de_cmp {F : D → D → Option D} {op : CmpOp} {a b : Expr} {pos : Pos} {f g : En → R D} (ho : OpR X (compareOp op) (rD X.K X.mg F)) (ha : DE X W a f) (hb : DE X W b g)
    (hm : behindInMarks op b = false := by first | exact nomark _ | rfl | with_unfolding_all rfl) : DE X W (.Compare a [op] [b] pos) (eOp F f g) :=
  pe_weak (pe_cmpR ho ha hb hm) fun _ _ _ => st_op
/-- a value that is True or False -/
def asB : D → Option Bool
  | .bl b => some b
  | _ => none
def eB (f : En → R D) (env : En) : R Bool := f env >>= fun d => R.of (asB d)
theorem asB_val {K : PySem.W.Frag} {mg : Str → Option Value} {H : Hp} {d : D} {v : V} {fp : List Addr} {b : Bool} (h : Val K mg H d v fp) (e : asB d = some b) : v = .bl b := by
  cases d <;> simp [asB] at e
  subst e
  simp only [Val] at h
  exact h.1
theorem dt_cmp {F : D → D → Option D} {op : CmpOp} {a b : Expr} {pos : Pos} {f g : En → R D} (ho : OpR X (compareOp op) (rD X.K X.mg F)) (ha : DE X W a f) (hb : DE X W b g)
    (hm : behindInMarks op b = false := by first | exact nomark _ | rfl | with_unfolding_all rfl) : DT X W (.Compare a [op] [b] pos) (eB (eOp F f g)) :=
  pt_weak (pt_cmpR ho ha hb hm) fun σ H Q ⟨S, env, P, q⟩ => by
    refine st_op ⟨S, env, P, q.bind.imp fun d q v H' fp e hv _ => ?_⟩
    obtain ⟨b, e1, q⟩ := Out.of q
    exact ⟨b, asB_val hv e1, q H' e⟩
/-- a chain of two comparisons -/
def eCh (F G : D → D → Option D) (f g h : En → R D) (env : En) : R D := f env >>= fun x => g env >>= fun y => R.of (F x y) >>= fun c => R.of (asB c) >>= fun c => if c = true then h env >>= fun z => R.of (G y z) else .ok (.bl false)
theorem st_chain {F G : D → D → Option D} {f g h : En → R D} {K : PySem.W.Frag} {mg : Str → Option Value} {W : WX} {σ : L2.St} {H : Hp} {Q : VK} (hh : tE K mg W (eCh F G f g h) σ H Q) :
    tChain (rD K mg F) (rD K mg G) (tE K mg W f) (tE K mg W g) (tE K mg W h) σ H Q := by
  obtain ⟨S, env, P, q⟩ := hh
  refine stE P q fun d v H1 fp e hv hp q => stE (P.sm e) q fun d2 v2 H2 fp2 e2 hv2 hp2 q => ?_
  obtain ⟨r, er, q⟩ := Out.of q.bind
  obtain ⟨c, ec, q⟩ := Out.of q.bind
  refine ⟨d, d2, fp, fp2, hv.sm e2, hv2, r, er, fun z H3 f3 e3 h3 p3 => ⟨c, asB_val h3 ec, ?_⟩⟩
  cases c with
  | true =>
    simp only [if_true] at q ⊢
    refine stE ((P.sm (e.trans e2)).sm e3) (q.sm e3) fun d4 v4 H4 fp4 e4 hv4 hp4 q => ?_
    obtain ⟨r5, er5, q⟩ := Out.of q
    exact ⟨d2, d4, fp2, fp4, (hv2.sm e3).sm e4, hv4, r5, er5, fun z H5 f5 e5 h5 p5 => q z H5 f5 ((((e.trans e2).trans e3).trans e4).trans e5) h5 fun a ha => by
      rcases p5 a ha with z | z | z
      · exact (hp2 a z).imp id fun z => e.back z
      · exact (hp4 a z).imp id fun z => e.back (e2.back (e3.back z))
      · exact .inr (e.back (e2.back (e3.back (e4.back z))))⟩
  | false =>
    simp only [Bool.false_eq_true, if_false] at q ⊢
    exact q (.bl false) H3 [] ((e.trans e2).trans e3) (by simp [Val]) (by simp)
theorem de_chain {F G : D → D → Option D} {op op' : CmpOp} {a b c : Expr} {pos : Pos} {f g h : En → R D} (ho : OpR X (compareOp op) (rD X.K X.mg F)) (ho' : OpR X (compareOp op') (rD X.K X.mg G)) (ha : DE X W a f) (hb : DE X W b g) (hc : DE X W c h)
    (hm : lastMarks [op, op'] [b, c] = false := by with_unfolding_all rfl) : DE X W (.Compare a [op, op'] [b, c] pos) (eCh F G f g h) := pe_weak (pe_chain ho ho' ha hb hc hm) fun _ _ _ => st_chain
theorem dt_chain {F G : D → D → Option D} {op op' : CmpOp} {a b c : Expr} {pos : Pos} {f g h : En → R D} (ho : OpR X (compareOp op) (rD X.K X.mg F)) (ho' : OpR X (compareOp op') (rD X.K X.mg G)) (ha : DE X W a f) (hb : DE X W b g) (hc : DE X W c h)
    (hm : lastMarks [op, op'] [b, c] = false := by with_unfolding_all rfl) : DT X W (.Compare a [op, op'] [b, c] pos) (eB (eCh F G f g h)) :=
  pt_weak (pt_chain ho ho' ha hb hc hm) fun σ H Q ⟨S, env, P, q⟩ => by
    refine st_chain ⟨S, env, P, q.bind.imp fun d q v H' fp e hv _ => ?_⟩
    obtain ⟨b, e1, q⟩ := Out.of q
    exact ⟨b, asB_val hv e1, q H' e⟩
end
end DL
set_option Elab.async false
set_option linter.all false
set_option maxRecDepth 100000
set_option maxHeartbeats 2000000
namespace DL
open PySem PySem.Spec PyProof.Rows L2

/-! ### data that == looks at -/
mutual
def toPy : D → PyData
  | .non => .none
  | .bl b => .bool b
  | .int i => .int i
  | .str x => .str x
  | .tup xs => .tuple (toPyAll xs)
  | .kt xs => .tuple (toPyAll xs)
  | .lst xs => .list (toPyAll xs)
  | .fz xs => .list (toPyAll xs)
  | .ty _ => .none
  | .dk _ _ => .none
  | .dt _ _ => .none
  | .ins _ _ _ => .none
def toPyAll : List D → List PyData
  | [] => []
  | x :: xs => toPy x :: toPyAll xs
end
mutual
/-- data without dicts, instances, types -/
def plain : D → Bool
  | .non => true
  | .bl _ => true
  | .int _ => true
  | .str _ => true
  | .tup xs => plainAll xs
  | .kt xs => plainAll xs
  | .lst xs => plainAll xs
  | .fz xs => plainAll xs
  | .ty _ => false
  | .dk _ _ => false
  | .dt _ _ => false
  | .ins _ _ _ => false
def plainAll : List D → Bool
  | [] => true
  | x :: xs => plain x && plainAll xs
end
def eqv (d e : D) : Bool := PyData.eqv (toPy d) (toPy e)
def okE (d : D) : Bool := plain d && SeqAt.shaped (toPy d)
def flat : D → Bool
  | .non => true
  | .bl _ => true
  | .int _ => true
  | .str _ => true
  | _ => false
section
variable {K : PySem.W.Frag} {mg : Str → Option Value} {H : Hp}
theorem KTup.sq {a : Addr} {xs : List V} (h : KTup K a xs) : SqT K H a xs := .inr h
mutual
theorem Val.dp : ∀ (d : D) {v : V} {fp : List Addr}, Val K mg H d v fp → plain d = true → Dp K H v (toPy d)
  | .non, v, fp, h, p => by simp only [Val] at h; rw [h.1, toPy]; exact .non
  | .bl b, v, fp, h, p => by simp only [Val] at h; rw [h.1, toPy]; exact .bl b
  | .int i, v, fp, h, p => by simp only [Val] at h; rw [h.1, toPy]; exact .int i
  | .str x, v, fp, h, p => by simp only [Val] at h; rw [h.1, toPy]; exact .str x
  | .ty n, v, fp, h, p => by simp [plain] at p
  | .tup ds, v, fp, h, p => by
    simp only [Val] at h
    obtain ⟨a, vs, e, t, q⟩ := h
    rw [e, toPy]
    exact .tup (.inl (.inl t)) (VAll.dp ds q (by simpa [plain] using p))
  | .kt ds, v, fp, h, p => by
    simp only [Val] at h
    obtain ⟨a, vs, e, t, q⟩ := h
    rw [e, toPy]
    exact .tup t.sq (VAll.dp ds q (by simpa [plain] using p))
  | .lst ds, v, fp, h, p => by
    simp only [Val] at h
    obtain ⟨a, vs, f, e, ef, t, q⟩ := h
    rw [e, toPy]
    exact .lst (.inl (.inl t)) (VAll.dp ds q (by simpa [plain] using p))
  | .fz ds, v, fp, h, p => by
    simp only [Val] at h
    obtain ⟨a, vs, e, t, q⟩ := h
    rw [e, toPy]
    exact .lst t.sq (VAll.dp ds q (by simpa [plain] using p))
  | .dk ks ds, v, fp, h, p => by simp [plain] at p
  | .dt ks ds, v, fp, h, p => by simp [plain] at p
  | .ins c fs ds, v, fp, h, p => by simp [plain] at p
theorem VAll.dp : ∀ (ds : List D) {vs : List V} {fp : List Addr}, VAll K mg H ds vs fp → plainAll ds = true → DpAll K H vs (toPyAll ds)
  | [], vs, fp, h, p => by simp only [VAll] at h; rw [h.1, toPyAll]; exact .nil
  | d :: ds, vs, fp, h, p => by
    simp only [VAll] at h
    obtain ⟨v, vr, f, g, e, ef, h1, h2⟩ := h
    have p' : plain d = true ∧ plainAll ds = true := by simpa [plainAll] using p
    rw [e, toPyAll]
    exact .cons (Val.dp d h1 p'.1) (VAll.dp ds h2 p'.2)
end
/-- a sequence's items: a list or a tuple of any kind -/
def items : D → Option (List D)
  | .tup xs => some xs
  | .kt xs => some xs
  | .lst xs => some xs
  | .fz xs => some xs
  | _ => none
theorem Val.seq {d : D} {v : V} {fp : List Addr} {ds : List D} (h : Val K mg H d v fp) (e : items d = Option.some ds) : ∃ a vs f, v = .ref a ∧ (SqL K H a vs ∨ SqT K H a vs) ∧ VAll K mg H ds vs f ∧ ∀ b ∈ f, b ∈ fp := by
  cases d <;> simp only [items, Option.some.injEq, reduceCtorEq] at e <;> subst e <;> simp only [Val] at h
  · obtain ⟨a, vs, e, t, q⟩ := h
    exact ⟨a, vs, fp, e, .inr (.inl (.inl t)), q, fun _ z => z⟩
  · obtain ⟨a, vs, f, e, ef, t, q⟩ := h
    exact ⟨a, vs, f, e, .inl (.inl (.inl t)), q, fun b z => by rw [ef]; exact List.mem_cons_of_mem _ z⟩
  · obtain ⟨a, vs, e, t, q⟩ := h
    exact ⟨a, vs, fp, e, .inl t.sq, q, fun _ z => z⟩
  · obtain ⟨a, vs, e, t, q⟩ := h
    exact ⟨a, vs, fp, e, .inr t.sq, q, fun _ z => z⟩
end

/-! ### == and != -/
def fitE (d e : D) : Bool := (flat d && flat e) || (okE d && okE e)
def eqD (d e : D) : Option D := if fitE d e = true then some (.bl (eqv d e)) else none
def neD (d e : D) : Option D := if fitE d e = true then some (.bl (!eqv d e)) else none
section
variable {X : Cx}
theorem flat_eq {K : PySem.W.Frag} {mg : Str → Option Value} {H : Hp} {d e : D} {x y : V} {fx fy : List Addr} (hx : Val K mg H d x fx) (hy : Val K mg H e y fy) (h1 : flat d = true) (h2 : flat e = true) :
    (scal x y = true ∧ decide (x = y) = eqv d e) ∨ (okE d = true ∧ okE e = true) := by
  cases d <;> simp [flat] at h1 <;> cases e <;> simp [flat] at h2 <;> simp only [Val] at hx hy <;> obtain ⟨rfl, -⟩ := hx <;> obtain ⟨rfl, -⟩ := hy <;>
    first
      | exact .inl ⟨rfl, by simp [eqv, toPy, PyData.eqv, Bool.beq_eq_decide_eq]⟩
      | exact .inr ⟨by simp [okE, plain, toPy, SeqAt.shaped, PyData.canLay0, PyData.depth], by simp [okE, plain, toPy, SeqAt.shaped, PyData.canLay0, PyData.depth]⟩
theorem or_eq (hu : X.A.units + 64 < cLine) : OpR X (compareOp .Eq) (rD X.K X.mg eqD) := by
  intro pins s σ H x y v u Q I rx ry ⟨dx, dy, fx, fy, hx, hy, d, e, q⟩
  unfold eqD at e
  split at e
  · rename_i hf
    cases e
    have deep : okE dx = true → okE dy = true → wpAny (model X.prog X.w) X.A (compareOp .Eq v u) (EP X pins σ Q) X.xe s := fun h1 h2 => by
      simp only [okE, Bool.and_eq_true] at h1 h2
      exact op_eqD hu pins s σ H x y v u Q I rx ry ⟨toPy dx, toPy dy, hx.dp _ h1.1, hy.dp _ h2.1, h1.2, h2.2, q _ H [] (Sm.refl H) (by simp [Val, eqv]) (by simp)⟩
    simp only [fitE, Bool.or_eq_true, Bool.and_eq_true] at hf
    rcases hf with ⟨h1, h2⟩ | ⟨h1, h2⟩
    · rcases flat_eq hx hy h1 h2 with ⟨a, b⟩ | ⟨a, b⟩
      · exact op_eq pins s σ H x y v u Q I rx ry ⟨a, by rw [b]; exact q _ H [] (Sm.refl H) (by simp [Val]) (by simp)⟩
      · exact deep a b
    · exact deep h1 h2
  · cases e
theorem or_ne (hu : X.A.units + 64 < cLine) : OpR X (compareOp .NotEq) (rD X.K X.mg neD) := by
  intro pins s σ H x y v u Q I rx ry ⟨dx, dy, fx, fy, hx, hy, d, e, q⟩
  unfold neD at e
  split at e
  · rename_i hf
    cases e
    have deep : okE dx = true → okE dy = true → wpAny (model X.prog X.w) X.A (compareOp .NotEq v u) (EP X pins σ Q) X.xe s := fun h1 h2 => by
      simp only [okE, Bool.and_eq_true] at h1 h2
      exact op_neD hu pins s σ H x y v u Q I rx ry ⟨toPy dx, toPy dy, hx.dp _ h1.1, hy.dp _ h2.1, h1.2, h2.2, q _ H [] (Sm.refl H) (by simp [Val, eqv]) (by simp)⟩
    simp only [fitE, Bool.or_eq_true, Bool.and_eq_true] at hf
    rcases hf with ⟨h1, h2⟩ | ⟨h1, h2⟩
    · rcases flat_eq hx hy h1 h2 with ⟨a, b⟩ | ⟨a, b⟩
      · exact op_ne pins s σ H x y v u Q I rx ry ⟨a, by rw [b]; exact q _ H [] (Sm.refl H) (by simp [Val]) (by simp)⟩
      · exact deep a b
    · exact deep h1 h2
  · cases e

/-! ### is -/
/-- y is None, True or False -/
def isD (d e : D) : Option D := match e with
  | .non => some (.bl (match d with | .non => true | _ => false))
  | .bl b => match d with
    | .bl a => some (.bl (a == b))
    | _ => none
  | _ => none
def isnD (d e : D) : Option D := match e with
  | .non => some (.bl (match d with | .non => false | _ => true))
  | .bl b => match d with
    | .bl a => some (.bl (!(a == b)))
    | _ => none
  | _ => none
end
end DL
set_option Elab.async false
set_option linter.all false
set_option maxRecDepth 100000
set_option maxHeartbeats 2000000
namespace DL
open PySem PySem.Spec PyProof.Rows L2

/-! ### arithmetic -/
def addD : D → D → Option D
  | .int i, .int j => some (.int (i + j))
  | .str a, .str b => if a.length + b.length ≤ sizeLine then some (.str (a ++ b)) else none
  | .lst xs, .lst ys => if xs.length + ys.length ≤ sizeLine then some (.lst (xs ++ ys)) else none
  | .tup xs, .tup ys => if xs.length + ys.length ≤ sizeLine then some (.tup (xs ++ ys)) else none
  | _, _ => none
def subD : D → D → Option D
  | .int i, .int j => some (.int (i - j))
  | _, _ => none
def fitMul (i j : Int) : Bool := (decide (-(2 ^ 64) < i) && decide (i < 2 ^ 64)) || (decide (-(2 ^ 64) < j) && decide (j < 2 ^ 64))
def mulD : D → D → Option D
  | .int i, .int j => if fitMul i j = true then some (.int (i * j)) else none
  | .lst xs, .int k => if -(2 ^ 63) ≤ k ∧ k < 2 ^ 63 ∧ xs.length * k.toNat ≤ sizeLine ∧ immAll xs = true then some (.lst (List.replicate k.toNat xs).flatten) else none
  | _, _ => none
def fdivD : D → D → Option D
  | .int i, .int j => if 0 < j ∧ j < 1073741824 then some (.int (i / j)) else none
  | _, _ => none
def modD : D → D → Option D
  | .int i, .int j => if 0 < j then some (.int (i % j)) else none
  | _, _ => none
def powD : D → D → Option D
  | .int i, .int j => if 0 ≤ j ∧ j ≤ 1000000 ∧ i.natAbs < 2 ^ 64 then some (.int (i ^ j.toNat)) else none
  | _, _ => none
section
variable {K : PySem.W.Frag} {mg : Str → Option Value} {H : Hp}
theorem val_int {i : Int} : Val K mg H (.int i) (.int i) [] := by simp [Val]
theorem val_bl {b : Bool} : Val K mg H (.bl b) (.bl b) [] := by simp [Val]
theorem val_str {x : Str} : Val K mg H (.str x) (.str x) [] := by simp [Val]
theorem val_non : Val K mg H .non .non [] := by simp [Val]
theorem nf {P : Addr → Prop} : ∀ a ∈ ([] : List Addr), P a := fun _ h => nomatch h
theorem val_tup {a : Addr} {ds : List D} {vs : List V} {f : List Addr} (h : H a = some (.tup vs)) (q : VAll K mg H ds vs f) : Val K mg H (.tup ds) (.ref a) f := by
  simp only [Val]; exact ⟨a, vs, rfl, h, q⟩
theorem val_lst {a : Addr} {ds : List D} {vs : List V} {f : List Addr} (h : H a = some (.lst vs)) (q : VAll K mg H ds vs f) : Val K mg H (.lst ds) (.ref a) (a :: f) := by
  simp only [Val]; exact ⟨a, vs, f, rfl, rfl, h, q⟩
theorem imm_replicate {xs : List D} (h : immAll xs = true) : ∀ n, immAll (List.replicate n xs).flatten = true
  | 0 => rfl
  | n + 1 => by
    have app : ∀ (as bs : List D), immAll as = true → immAll bs = true → immAll (as ++ bs) = true := by
      intro as bs ha hb
      induction as with
      | nil => exact hb
      | cons d ds ih =>
        simp only [immAll, Bool.and_eq_true, List.cons_append] at ha ⊢
        exact ⟨ha.1, ih ha.2⟩
    rw [List.replicate_succ, List.flatten_cons]
    exact app _ _ h (imm_replicate h n)
theorem VAll.rep {xs : List D} {vs : List V} (h : VAll K mg H xs vs []) : ∀ n, VAll K mg H (List.replicate n xs).flatten (List.replicate n vs).flatten []
  | 0 => VAll.nil
  | n + 1 => by
    rw [List.replicate_succ, List.flatten_cons, List.replicate_succ, List.flatten_cons]
    exact VAll.append h (VAll.rep h n)
end
section
variable {X : Cx}
theorem or_add : OpR X (binaryOp .Add) (rD X.K X.mg addD) := by
  intro pins s σ H x y v u Q I rx ry ⟨dx, dy, fx, fy, hx, hy, d, e, q⟩
  unfold addD at e
  split at e
  · cases e
    simp only [Val] at hx hy
    exact op_add pins s σ H x y v u Q I rx ry ⟨_, _, hx.1, hy.1, q _ H [] (Sm.refl H) val_int nf⟩
  · split at e
    · cases e
      rename_i hz
      simp only [Val] at hx hy
      exact op_add_str pins s σ H x y v u Q I rx ry ⟨_, _, hx.1, hy.1, hz, q _ H [] (Sm.refl H) val_str nf⟩
    · cases e
  · split at e
    · cases e
      rename_i hz
      simp only [Val] at hx hy
      obtain ⟨a, vs, f, e1, e2, h1, h2⟩ := hx
      obtain ⟨b, us, g, e3, e4, h3, h4⟩ := hy
      refine op_cat pins s σ H x y v u Q I rx ry ⟨a, b, vs, us, e1, e3, h1, h3, by rw [h2.length, h4.length]; exact hz, fun p hp => ?_⟩
      refine q _ _ _ (Sm.new hp) (val_lst upd_same ((h2.append h4).sm (Sm.new hp))) fun c hc => ?_
      rcases List.mem_cons.mp hc with z | z
      · exact .inr (.inr (z ▸ hp))
      · rcases List.mem_append.mp z with z | z
        · exact .inl (by rw [e2]; exact List.mem_cons_of_mem _ z)
        · exact .inr (.inl (by rw [e4]; exact List.mem_cons_of_mem _ z))
    · cases e
  · split at e
    · cases e
      rename_i hz
      simp only [Val] at hx hy
      obtain ⟨a, vs, e1, h1, h2⟩ := hx
      obtain ⟨b, us, e3, h3, h4⟩ := hy
      have all := h2.append h4
      refine op_catA pins s σ H x y v u Q I rx ry ⟨a, b, vs, us, e1, e3, .inl (.inl h1), .inl (.inl h3), by rw [h2.length, h4.length]; exact hz, fun e0 => ?_, fun _ e0 => ?_, fun _ _ p hp => ?_⟩
      · subst e0
        exact q _ H _ (Sm.refl H) (val_tup h3 (by simpa using all)) fun c hc => by
          rcases List.mem_append.mp hc with z | z
          · exact .inl z
          · exact .inr (.inl z)
      · subst e0
        exact q _ H _ (Sm.refl H) (val_tup h1 (by simpa using all)) fun c hc => by
          rcases List.mem_append.mp hc with z | z
          · exact .inl z
          · exact .inr (.inl z)
      · exact q _ _ _ (Sm.new hp) (val_tup upd_same (all.sm (Sm.new hp))) fun c hc => by
          rcases List.mem_append.mp hc with z | z
          · exact .inl z
          · exact .inr (.inl z)
    · cases e
  · cases e
theorem or_sub : OpR X (binaryOp .Sub) (rD X.K X.mg subD) := by
  intro pins s σ H x y v u Q I rx ry ⟨dx, dy, fx, fy, hx, hy, d, e, q⟩
  unfold subD at e
  split at e
  · cases e
    simp only [Val] at hx hy
    exact op_sub pins s σ H x y v u Q I rx ry ⟨_, _, hx.1, hy.1, q _ H [] (Sm.refl H) val_int nf⟩
  · cases e
theorem or_mul : OpR X (binaryOp .Mult) (rD X.K X.mg mulD) := by
  intro pins s σ H x y v u Q I rx ry ⟨dx, dy, fx, fy, hx, hy, d, e, q⟩
  unfold mulD at e
  split at e
  · split at e
    · rename_i hz
      cases e
      simp only [Val] at hx hy
      exact op_mul pins s σ H x y v u Q I rx ry ⟨_, _, hx.1, hy.1, by simpa [CMul, fitMul] using hz, q _ H [] (Sm.refl H) val_int nf⟩
    · cases e
  · split at e
    · rename_i hz
      cases e
      obtain ⟨z1, z2, z3, z4⟩ := hz
      simp only [Val] at hx hy
      obtain ⟨a, vs, f, e1, e2, h1, h2⟩ := hx
      have hf := VAll.imm _ h2 z4
      subst hf
      refine op_rep pins s σ H x y v u Q I rx ry ⟨a, _, vs, e1, hy.1, h1, z1, z2, by rw [h2.length]; exact z3, fun p hp => ?_⟩
      refine q _ _ _ (Sm.new hp) (val_lst upd_same ((VAll.rep h2 _).sm (Sm.new hp))) fun c hc => ?_
      rcases List.mem_cons.mp hc with z | z
      · exact .inr (.inr (z ▸ hp))
      · cases z
    · cases e
  · cases e
theorem or_fdiv : OpR X (binaryOp .FloorDiv) (rD X.K X.mg fdivD) := by
  intro pins s σ H x y v u Q I rx ry ⟨dx, dy, fx, fy, hx, hy, d, e, q⟩
  unfold fdivD at e
  split at e
  · split at e
    · rename_i hz
      cases e
      simp only [Val] at hx hy
      exact op_fdiv pins s σ H x y v u Q I rx ry ⟨_, _, hx.1, hy.1, hz, q _ H [] (Sm.refl H) val_int nf⟩
    · cases e
  · cases e
theorem or_mod : OpR X (binaryOp .Mod) (rD X.K X.mg modD) := by
  intro pins s σ H x y v u Q I rx ry ⟨dx, dy, fx, fy, hx, hy, d, e, q⟩
  unfold modD at e
  split at e
  · split at e
    · rename_i hz
      cases e
      simp only [Val] at hx hy
      exact op_mod pins s σ H x y v u Q I rx ry ⟨_, _, hx.1, hy.1, hz, q _ H [] (Sm.refl H) val_int nf⟩
    · cases e
  · cases e
theorem or_pow : OpR X (binaryOp .Pow) (rD X.K X.mg powD) := by
  intro pins s σ H x y v u Q I rx ry ⟨dx, dy, fx, fy, hx, hy, d, e, q⟩
  unfold powD at e
  split at e
  · split at e
    · rename_i hz
      cases e
      simp only [Val] at hx hy
      exact op_pow pins s σ H x y v u Q I rx ry ⟨_, _, hx.1, hy.1, hz, q _ H [] (Sm.refl H) val_int nf⟩
    · cases e
  · cases e
end

/-! ### order -/
def intsD : List D → Option (List Int)
  | [] => some []
  | .int i :: r => (intsD r).map (i :: ·)
  | _ :: _ => none
def ltD : D → D → Option D
  | .int i, .int j => some (.bl (decide (i < j)))
  | .str i, .str j => some (.bl (decide (i.cps.toList < j.cps.toList)))
  | .tup xs, .tup ys => match intsD xs, intsD ys with
    | some ns, some ms => some (.bl (HT.lexLt ns ms))
    | _, _ => none
  | _, _ => none
def gtD : D → D → Option D
  | .int i, .int j => some (.bl (decide (j < i)))
  | _, _ => none
def leD : D → D → Option D
  | .int i, .int j => some (.bl (decide (i ≤ j)))
  | _, _ => none
def geD : D → D → Option D
  | .int i, .int j => some (.bl (decide (j ≤ i)))
  | _, _ => none
theorem VAll.intsD {K : PySem.W.Frag} {mg : Str → Option Value} {H : Hp} : ∀ {ds : List D} {vs : List V} {f : List Addr} {ns : List Int}, VAll K mg H ds vs f → DL.intsD ds = some ns → vs = ns.map V.int
  | [], vs, f, ns, h, e => by
    simp only [VAll] at h
    simp only [DL.intsD, Option.some.injEq] at e
    rw [h.1, ← e]; rfl
  | d :: ds, vs, f, ns, h, e => by
    simp only [VAll] at h
    obtain ⟨v, vr, f1, g, ev, ef, h1, h2⟩ := h
    cases d <;> simp only [DL.intsD, reduceCtorEq, Option.map_eq_some_iff] at e
    obtain ⟨ms, e1, e2⟩ := e
    simp only [Val] at h1
    rw [ev, ← e2, h1.1, VAll.intsD h2 e1]; rfl
section
variable {X : Cx}
theorem or_lt (hu : X.A.units < cLine) : OpR X (compareOp .Lt) (rD X.K X.mg ltD) := by
  intro pins s σ H x y v u Q I rx ry ⟨dx, dy, fx, fy, hx, hy, d, e, q⟩
  unfold ltD at e
  split at e
  · cases e
    simp only [Val] at hx hy
    exact op_lt pins s σ H x y v u Q I rx ry ⟨_, _, hx.1, hy.1, q _ H [] (Sm.refl H) val_bl nf⟩
  · cases e
    simp only [Val] at hx hy
    exact op_lt_str pins s σ H x y v u Q I rx ry ⟨_, _, hx.1, hy.1, q _ H [] (Sm.refl H) val_bl nf⟩
  · split at e
    · rename_i ns ms e1 e2
      cases e
      simp only [Val] at hx hy
      obtain ⟨a, vs, q1, h1, h2⟩ := hx
      obtain ⟨b, us, q3, h3, h4⟩ := hy
      have z1 := VAll.intsD h2 e1
      have z2 := VAll.intsD h4 e2
      subst z1 z2
      exact op_ltT hu pins s σ H x y v u Q I rx ry ⟨a, b, ns, ms, q1, q3, .inl (.inl h1), .inl (.inl h3), q _ H [] (Sm.refl H) val_bl nf⟩
    · cases e
  · cases e
theorem or_gt : OpR X (compareOp .Gt) (rD X.K X.mg gtD) := by
  intro pins s σ H x y v u Q I rx ry ⟨dx, dy, fx, fy, hx, hy, d, e, q⟩
  unfold gtD at e
  split at e
  · cases e
    simp only [Val] at hx hy
    exact op_gt pins s σ H x y v u Q I rx ry ⟨_, _, hx.1, hy.1, q _ H [] (Sm.refl H) val_bl nf⟩
  · cases e
theorem or_le : OpR X (compareOp .LtE) (rD X.K X.mg leD) := by
  intro pins s σ H x y v u Q I rx ry ⟨dx, dy, fx, fy, hx, hy, d, e, q⟩
  unfold leD at e
  split at e
  · cases e
    simp only [Val] at hx hy
    exact op_le pins s σ H x y v u Q I rx ry ⟨_, _, hx.1, hy.1, q _ H [] (Sm.refl H) val_bl nf⟩
  · cases e
theorem or_ge : OpR X (compareOp .GtE) (rD X.K X.mg geD) := by
  intro pins s σ H x y v u Q I rx ry ⟨dx, dy, fx, fy, hx, hy, d, e, q⟩
  unfold geD at e
  split at e
  · cases e
    simp only [Val] at hx hy
    exact op_ge pins s σ H x y v u Q I rx ry ⟨_, _, hx.1, hy.1, q _ H [] (Sm.refl H) val_bl nf⟩
  · cases e
theorem or_is : OpR X (compareOp .Is) (rD X.K X.mg isD) := by
  intro pins s σ H x y v u Q I rx ry ⟨dx, dy, fx, fy, hx, hy, d, e, q⟩
  unfold isD at e
  split at e
  · cases e
    simp only [Val] at hy
    refine op_isN pins s σ H x y v u Q I rx ry ⟨hy.1, ?_⟩
    refine q _ H [] (Sm.refl H) ?_ nf
    cases dx <;> simp only [Val] at hx
    case non => simp [Val, hx.1]
    case bl => simp [Val, hx.1]
    case int => simp [Val, hx.1]
    case str => simp [Val, hx.1]
    case ty => simp [Val, hx.1]
    case tup => obtain ⟨a, vs, q1, _⟩ := hx; simp [Val, q1]
    case lst => obtain ⟨a, vs, f, q1, _⟩ := hx; simp [Val, q1]
    case fz => obtain ⟨a, vs, q1, _⟩ := hx; simp [Val, q1]
    case kt => obtain ⟨a, vs, q1, _⟩ := hx; simp [Val, q1]
    case dk => obtain ⟨a, vs, f, q1, _⟩ := hx; simp [Val, q1]
    case dt => obtain ⟨a, vs, f, q1, _⟩ := hx; simp [Val, q1]
    case ins => obtain ⟨a, C, dx, vs, f, q1, _⟩ := hx; simp [Val, q1]
  · split at e
    · cases e
      simp only [Val] at hx hy
      exact op_is_bl pins s σ H x y v u Q I rx ry ⟨_, _, hx.1, hy.1, q _ H [] (Sm.refl H) (by simp [Val, Bool.beq_eq_decide_eq]) nf⟩
    · cases e
  · cases e
theorem or_isn : OpR X (compareOp .IsNot) (rD X.K X.mg isnD) := by
  intro pins s σ H x y v u Q I rx ry ⟨dx, dy, fx, fy, hx, hy, d, e, q⟩
  unfold isnD at e
  split at e
  · cases e
    simp only [Val] at hy
    refine op_notN pins s σ H x y v u Q I rx ry ⟨hy.1, ?_⟩
    refine q _ H [] (Sm.refl H) ?_ nf
    cases dx <;> simp only [Val] at hx
    case non => simp [Val, hx.1]
    case bl => simp [Val, hx.1]
    case int => simp [Val, hx.1]
    case str => simp [Val, hx.1]
    case ty => simp [Val, hx.1]
    case tup => obtain ⟨a, vs, q1, _⟩ := hx; simp [Val, q1]
    case lst => obtain ⟨a, vs, f, q1, _⟩ := hx; simp [Val, q1]
    case fz => obtain ⟨a, vs, q1, _⟩ := hx; simp [Val, q1]
    case kt => obtain ⟨a, vs, q1, _⟩ := hx; simp [Val, q1]
    case dk => obtain ⟨a, vs, f, q1, _⟩ := hx; simp [Val, q1]
    case dt => obtain ⟨a, vs, f, q1, _⟩ := hx; simp [Val, q1]
    case ins => obtain ⟨a, C, dx, vs, f, q1, _⟩ := hx; simp [Val, q1]
  · split at e
    · cases e
      simp only [Val] at hx hy
      exact op_isnot_bl pins s σ H x y v u Q I rx ry ⟨_, _, hx.1, hy.1, q _ H [] (Sm.refl H) (by simp [Val, Bool.beq_eq_decide_eq]) nf⟩
    · cases e
  · cases e
end
end DL
set_option Elab.async false
set_option linter.all false
set_option maxRecDepth 100000
set_option maxHeartbeats 2000000
namespace DL
open PySem PySem.Spec PyProof.Rows L2

/-! ### dicts -/
def keyOf : D → Option Key
  | .int i => some (.inl i)
  | .str x => some (.inr x)
  | _ => none
def keysAll : List D → Option (List Key)
  | [] => some []
  | d :: r => (keyOf d).bind fun k => (keysAll r).map (k :: ·)
def keysOf : D → Option (List Key)
  | .tup xs => keysAll xs
  | _ => none
section
variable {κ : Type} [DecidableEq κ]
def dlook : List κ → List D → κ → Option D
  | k' :: ks, x :: xs, k => if k' = k then some x else dlook ks xs k
  | _, _, _ => none
variable {K : PySem.W.Frag} {mg : Str → Option Value} {H : Hp}
theorem dlook_some : ∀ {kvs : List (κ × V)} {ds : List D} {f : List Addr} {k : κ} {d : D}, VAll K mg H ds (kvs.map (·.2)) f → dlook (kvs.map (·.1)) ds k = some d → ∃ v g, valV kvs k = some v ∧ Val K mg H d v g ∧ ∀ a ∈ g, a ∈ f
  | [], ds, f, k, d, h, e => by cases ds <;> simp [dlook] at e
  | p :: kvs, [], f, k, d, h, e => by simp [dlook] at e
  | p :: kvs, x :: ds, f, k, d, h, e => by
    simp only [List.map_cons, VAll] at h
    obtain ⟨v, vr, f1, g1, ev, ef, h1, h2⟩ := h
    simp only [List.cons.injEq] at ev
    simp only [List.map_cons, dlook] at e
    split at e
    · rename_i hk
      cases e
      exact ⟨p.2, f1, valV_pos hk, by rw [ev.1]; exact h1, fun a ha => by rw [ef]; exact List.mem_append_left _ ha⟩
    · rename_i hk
      obtain ⟨u, g, q1, q2, q3⟩ := dlook_some (kvs := kvs) (by rw [ev.2]; exact h2) e
      exact ⟨u, g, by rw [valV_neg hk]; exact q1, q2, fun a ha => by rw [ef]; exact List.mem_append_right _ (q3 a ha)⟩
theorem dlook_none : ∀ {kvs : List (κ × V)} {ds : List D} {f : List Addr} {k : κ}, VAll K mg H ds (kvs.map (·.2)) f → dlook (kvs.map (·.1)) ds k = none → valV kvs k = none
  | [], ds, f, k, h, e => rfl
  | p :: kvs, [], f, k, h, e => by simp only [List.map_cons, VAll] at h; exact absurd h.1 (by simp)
  | p :: kvs, x :: ds, f, k, h, e => by
    simp only [List.map_cons, VAll] at h
    obtain ⟨v, vr, f1, g1, ev, ef, h1, h2⟩ := h
    simp only [List.cons.injEq] at ev
    simp only [List.map_cons, dlook] at e
    split at e
    · cases e
    · rename_i hk
      rw [valV_neg hk]
      exact dlook_none (kvs := kvs) (by rw [ev.2]; exact h2) e
def hasK (ks : List κ) (k : κ) : Bool := ks.any fun k' => decide (k' = k)
theorem valV_mem (kvs : List (κ × V)) (k : κ) : (valV kvs k).isSome = hasK (kvs.map (·.1)) k := by
  rw [← valV_any, hasK, List.any_map]; rfl
end
section
variable {K : PySem.W.Frag} {mg : Str → Option Value} {H : Hp}
theorem Val.key {d : D} {v : V} {f : List Addr} {k : Key} (h : Val K mg H d v f) (e : keyOf d = some k) : v = kV k := by
  cases d <;> simp [keyOf] at e <;> subst e <;> simp only [Val] at h <;> exact h.1
theorem VAll.keys : ∀ {ds : List D} {vs : List V} {f : List Addr} {ks : List Key}, VAll K mg H ds vs f → keysAll ds = some ks → vs = ks.map kV
  | [], vs, f, ks, h, e => by
    simp only [VAll] at h
    simp only [keysAll, Option.some.injEq] at e
    rw [h.1, ← e]; rfl
  | d :: ds, vs, f, ks, h, e => by
    simp only [VAll] at h
    obtain ⟨v, vr, f1, g, ev, ef, h1, h2⟩ := h
    simp only [keysAll, Option.bind_eq_some_iff, Option.map_eq_some_iff] at e
    obtain ⟨k, e1, r, e2, e3⟩ := e
    rw [ev, ← e3, Val.key h1 e1, VAll.keys h2 e2]; rfl
theorem Val.keys {d : D} {v : V} {f : List Addr} {ks : List Key} (h : Val K mg H d v f) (e : keysOf d = some ks) : ∃ b, v = .ref b ∧ H b = some (.tup (ks.map kV)) := by
  cases d <;> simp [keysOf] at e
  simp only [Val] at h
  obtain ⟨a, vs, q1, q2, q3⟩ := h
  exact ⟨a, q1, by rw [q2, VAll.keys q3 e]⟩
end

/-! ### in -/
def inB (x c : D) : Option Bool := match c with
  | .dk ks _ => (keyOf x).map fun k => hasK ks k
  | .dt ks _ => (keysOf x).map fun k => hasK ks k
  | .str z => match x with
    | .str y => match y.cps.toList with
      | [c] => some (decide (c ∈ z.cps.toList))
      | _ => none
    | _ => none
  | c => match items c with
    | some xs => if okE x = true ∧ okE c = true then some (xs.any fun z => eqv z x) else none
    | none => none
def inD (x c : D) : Option D := (inB x c).map .bl
def ninD (x c : D) : Option D := (inB x c).map fun b => .bl (!b)
theorem toPyAll_map : ∀ xs : List D, toPyAll xs = xs.map toPy
  | [] => rfl
  | x :: xs => by rw [toPyAll, toPyAll_map xs]; rfl
section
variable {X : Cx}
theorem str_one {y : Str} {c : Nat} (h : y.cps.toList = [c]) : y = ⟨#[c]⟩ := by
  cases y with
  | mk a => simp only at h; congr 1; exact Array.toList_inj.mp (by rw [h])
theorem in_cases {K : PySem.W.Frag} {mg : Str → Option Value} {H : Hp} {dx dy : D} {x y : V} {fx fy : List Addr} {b : Bool} (hx : Val K mg H dx x fx) (hy : Val K mg H dy y fy) (e : inB dx dy = some b) :
    (∃ a o, y = .ref a ∧ DGet H a x o ∧ o.isSome = b) ∨ (∃ (c : Nat) (z : Str), x = .str ⟨#[c]⟩ ∧ y = .str z ∧ b = decide (c ∈ z.cps.toList)) ∨
    (∃ d ds, Dp K H x d ∧ (Dp K H y (.list ds) ∨ Dp K H y (.tuple ds)) ∧ SeqAt.shaped d = true ∧ PyData.canLayAll0 ds = true ∧ b = ds.any fun z => PyData.eqv z d) := by
  have seq : ∀ xs, items dy = some xs → okE dx = true ∧ okE dy = true → b = xs.any (fun z => eqv z dx) → (∃ a o, y = V.ref a ∧ DGet H a x o ∧ o.isSome = b) ∨ (∃ (c : Nat) (z : Str), x = .str ⟨#[c]⟩ ∧ y = .str z ∧ b = decide (c ∈ z.cps.toList)) ∨
    (∃ d ds, Dp K H x d ∧ (Dp K H y (.list ds) ∨ Dp K H y (.tuple ds)) ∧ SeqAt.shaped d = true ∧ PyData.canLayAll0 ds = true ∧ b = ds.any fun z => PyData.eqv z d) := fun xs hi ok hb => by
    refine Or.inr (Or.inr ⟨toPy dx, toPyAll xs, hx.dp _ (by simp only [okE, Bool.and_eq_true] at ok; exact ok.1.1), ?_, by simp only [okE, Bool.and_eq_true] at ok; exact ok.1.2, ?_, ?_⟩)
    · have p : plain dy = true := by simp only [okE, Bool.and_eq_true] at ok; exact ok.2.1
      have q := hy.dp _ p
      cases dy <;> simp only [items, Option.some.injEq, reduceCtorEq] at hi <;> subst hi <;> simp only [toPy] at q <;> first | exact .inl q | exact .inr q
    · have p : SeqAt.shaped (toPy dy) = true := by simp only [okE, Bool.and_eq_true] at ok; exact ok.2.2
      have q := SeqAt.canLay_of_shaped p
      cases dy <;> simp only [items, Option.some.injEq, reduceCtorEq] at hi <;> subst hi <;> simpa [toPy, PyData.canLay0] using q
    · rw [hb, toPyAll_map, List.any_map]; rfl
  unfold inB at e
  split at e
  · simp only [Option.map_eq_some_iff] at e
    obtain ⟨k, e1, e2⟩ := e
    simp only [Val] at hy
    obtain ⟨a, kvs, f, q1, q2, q3, q4, q5⟩ := hy
    refine .inl ⟨a, valV kvs k, q1, .inl ⟨kvs, k, q3, Val.key hx e1, rfl⟩, ?_⟩
    rw [valV_mem, q4, ← e2]
  · simp only [Option.map_eq_some_iff] at e
    obtain ⟨k, e1, e2⟩ := e
    simp only [Val] at hy
    obtain ⟨a, kvs, f, q1, q2, q3, q4, q5⟩ := hy
    obtain ⟨b', h1, h2⟩ := Val.keys hx e1
    refine .inl ⟨a, valV kvs k, q1, .inr ⟨kvs, k, b', q3, h1, h2, rfl⟩, ?_⟩
    rw [valV_mem, q4, ← e2]
  · split at e
    · split at e
      · rename_i c hc
        cases e
        simp only [Val] at hx hy
        exact .inr (.inl ⟨c, _, by rw [hx.1, str_one hc], hy.1, rfl⟩)
      · cases e
    · cases e
  · split at e
    · rename_i xs hi
      split at e
      · rename_i ok
        cases e
        exact seq xs hi ok rfl
      · cases e
    · cases e
theorem room_in {A : Around} {ds : List PyData} {d : PyData} (h : SeqAt.shaped d = true) (hu : A.units + 65 < cLine) : A.units + 1 + min (PyData.depthAll ds) d.depth < cLine := by
  have h1 := SeqAt.depth_of_shaped h
  have h2 : min (PyData.depthAll ds) d.depth ≤ d.depth := Nat.min_le_right _ _
  omega
theorem or_in (hu : X.A.units + 65 < cLine) : OpR X (compareOp .In) (rD X.K X.mg inD) := by
  intro pins s σ H x y v u Q I rx ry ⟨dx, dy, fx, fy, hx, hy, d, e, q⟩
  simp only [inD, Option.map_eq_some_iff] at e
  obtain ⟨b, e, rfl⟩ := e
  have fin := q (.bl b) H [] (Sm.refl H) val_bl nf
  rcases in_cases hx hy e with ⟨a, o, ey, g, eb⟩ | ⟨c, z, ex, ey, eb⟩ | ⟨d, ds, h1, h2, h3, h4, eb⟩
  · subst ey
    obtain rfl : u = Value.ref a := ry
    exact d_in (by omega) I g rx fun s' I' => ⟨.bl b, H, I', by rw [← eb]; rfl, fin⟩
  · exact op_in_sign pins s σ H x y v u Q I rx ry ⟨c, z, ex, ey, by rw [← eb]; exact fin⟩
  · obtain ⟨as, r1⟩ := Dp.reads I d x v h1 rx
    rcases h2 with h2 | h2
    · obtain ⟨bs, r2⟩ := Dp.reads I _ y u h2 ry
      exact SeqAt.in_list_reads r2 r1 h4 (SeqAt.canLay_of_shaped h3) (room_in h3 hu) ⟨.bl _, H, I, rfl, by rw [← eb]; exact fin⟩
    · obtain ⟨bs, r2⟩ := Dp.reads I _ y u h2 ry
      exact SeqAt.in_tuple_reads r2 r1 h4 (SeqAt.canLay_of_shaped h3) (room_in h3 hu) ⟨.bl _, H, I, rfl, by rw [← eb]; exact fin⟩
theorem or_nin (hu : X.A.units + 65 < cLine) : OpR X (compareOp .NotIn) (rD X.K X.mg ninD) := by
  intro pins s σ H x y v u Q I rx ry ⟨dx, dy, fx, fy, hx, hy, d, e, q⟩
  simp only [ninD, Option.map_eq_some_iff] at e
  obtain ⟨b, e, rfl⟩ := e
  have fin := q (.bl (!b)) H [] (Sm.refl H) val_bl nf
  rcases in_cases hx hy e with ⟨a, o, ey, g, eb⟩ | ⟨c, z, ex, ey, eb⟩ | ⟨d, ds, h1, h2, h3, h4, eb⟩
  · subst ey
    obtain rfl : u = Value.ref a := ry
    exact d_notIn (by omega) I g rx fun s' I' => ⟨.bl (!b), H, I', by rw [← eb]; rfl, fin⟩
  · exact op_notIn_sign pins s σ H x y v u Q I rx ry ⟨c, z, ex, ey, by rw [← eb]; exact fin⟩
  · obtain ⟨as, r1⟩ := Dp.reads I d x v h1 rx
    rcases h2 with h2 | h2
    · obtain ⟨bs, r2⟩ := Dp.reads I _ y u h2 ry
      exact SeqAt.notIn_list_reads r2 r1 h4 (SeqAt.canLay_of_shaped h3) (room_in h3 hu) ⟨.bl _, H, I, rfl, by rw [← eb]; exact fin⟩
    · obtain ⟨bs, r2⟩ := Dp.reads I _ y u h2 ry
      exact SeqAt.notIn_tuple_reads r2 r1 h4 (SeqAt.canLay_of_shaped h3) (room_in h3 hu) ⟨.bl _, H, I, rfl, by rw [← eb]; exact fin⟩
end

/-! ### items -/
def idxD (c i : D) : Option D := match c with
  | .dk ks xs => (keyOf i).bind (dlook ks xs)
  | .dt ks xs => (keysOf i).bind (dlook ks xs)
  | .str z => match i with
    | .int i => if z.length ≤ sizeLine then (atI z.cps.toList i).map fun c => .str ⟨#[c]⟩ else none
    | _ => none
  | c => match i with
    | .int i => (items c).bind fun xs => atI xs i
    | _ => none
theorem VAll.atI {K : PySem.W.Frag} {mg : Str → Option Value} {H : Hp} {ds : List D} {vs : List V} {f : List Addr} {i : Int} {d : D} (h : VAll K mg H ds vs f) (e : L2.atI ds i = some d) : ∃ v g, L2.atI vs i = some v ∧ Val K mg H d v g ∧ ∀ a ∈ g, a ∈ f := by
  unfold L2.atI at e ⊢
  rw [h.length]
  cases q : ixN ds.length i with
  | none => rw [q] at e; cases e
  | some j =>
    rw [q] at e
    obtain ⟨v, g, h1, h2, h3⟩ := h.get (i := j) (d := d) e
    exact ⟨v, g, h1, h2, h3⟩
section
variable {X : Cx}
theorem ix_dict (hu : X.A.units + 1 < cLine) : IxR X (fun x y H Q => ∃ a v, x = .ref a ∧ DGet H a y (some v) ∧ Q v H) := by
  intro value slice pins s σ H x y v u Q I rx ry ⟨a, z, ex, g, q⟩ hs
  subst ex
  obtain rfl : v = Value.ref a := rx
  unfold subscriptTail
  have hT := dict_typeIs I g
  refine wpAny_bind ?_
  rw [getitemInPython_of_ne hT.not_modules]
  refine wpAny_bind (wpAny_specialOf hT PySem.F.slot_dict_getitem.lookup ?_)
  have fin : wpAny (model X.prog X.w) X.A (subscripted slice false (.ref a) u) (fun r s₃ => wpAny (model X.prog X.w) X.A (letTemporaryGo value (.ref a) r >>= fun _ => pure r) (EP X pins σ Q) X.xe s₃) X.xe s := by
    rw [hs]
    exact wpAny_operating (d_getItem hu I g ry fun w' s' I' rw' => wpAny_bind (wpAny_letTemporaryGo (wpAny_pure ⟨z, H, I', rw', q⟩)))
  first
    | exact wpAny_pure (wpAny_bind fin)
    | exact wpAny_bind (wpAny_pure (wpAny_bind fin))
    | exact wpAny_bind fin
theorem ix_any (hu : X.A.units + 1 < cLine) : IxR X (rD X.K X.mg idxD) := by
  intro value slice pins s σ H x y v u Q I rx ry ⟨dx, dy, fx, fy, hx, hy, d, e, q⟩ hs
  have keep : ∀ {d : D} {v : V} {g : List Addr}, Val X.K X.mg H d v g → (∀ a ∈ g, a ∈ fx) → ∀ a ∈ g, a ∈ fx ∨ a ∈ fy ∨ H a = none := fun _ h a ha => .inl (h a ha)
  have seq : ∀ xs i, items dx = some xs → dy = .int i → L2.atI xs i = some d → wpAny (model X.prog X.w) X.A (subscriptTail value slice v u) (EP X pins σ Q) X.xe s := fun xs i h1 h2 h3 => by
    obtain ⟨a, vs, f, ex, hsq, hv, hf⟩ := hx.seq h1
    obtain ⟨z, g, e1, e2, e3⟩ := hv.atI h3
    subst h2
    simp only [Val] at hy
    have fin := q z H g (Sm.refl H) e2 fun b hb => .inl (hf b (e3 b hb))
    rcases hsq with hsq | hsq
    · exact ix_list value slice pins s σ H x y v u Q I rx ry ⟨a, vs, i, z, ex, hy.1, hsq, e1, fin⟩ hs
    · exact ix_tup value slice pins s σ H x y v u Q I rx ry ⟨a, vs, i, z, ex, hy.1, hsq, e1, fin⟩ hs
  unfold idxD at e
  split at e
  · simp only [Option.bind_eq_some_iff] at e
    obtain ⟨k, e1, e2⟩ := e
    simp only [Val] at hx
    obtain ⟨a, kvs, f, q1, q2, q3, q4, q5⟩ := hx
    obtain ⟨z, g, h1, h2, h3⟩ := dlook_some q5 (by rw [q4]; exact e2)
    exact ix_dict hu value slice pins s σ H x y v u Q I rx ry ⟨a, z, q1, .inl ⟨kvs, k, q3, Val.key hy e1, h1.symm⟩, q z H g (Sm.refl H) h2 fun b hb => .inl (by rw [q2]; exact List.mem_cons_of_mem _ (h3 b hb))⟩ hs
  · simp only [Option.bind_eq_some_iff] at e
    obtain ⟨k, e1, e2⟩ := e
    simp only [Val] at hx
    obtain ⟨a, kvs, f, q1, q2, q3, q4, q5⟩ := hx
    obtain ⟨z, g, h1, h2, h3⟩ := dlook_some q5 (by rw [q4]; exact e2)
    obtain ⟨b', k1, k2⟩ := Val.keys hy e1
    exact ix_dict hu value slice pins s σ H x y v u Q I rx ry ⟨a, z, q1, .inr ⟨kvs, k, b', q3, k1, k2, h1.symm⟩, q z H g (Sm.refl H) h2 fun b hb => .inl (by rw [q2]; exact List.mem_cons_of_mem _ (h3 b hb))⟩ hs
  · split at e
    · split at e
      · rename_i hz
        simp only [Option.map_eq_some_iff] at e
        obtain ⟨c, e1, rfl⟩ := e
        simp only [Val] at hx hy
        exact ix_str value slice pins s σ H x y v u Q I rx ry ⟨_, _, c, hx.1, hy.1, hz, e1, q _ H [] (Sm.refl H) val_str nf⟩ hs
      · cases e
    · cases e
  · split at e
    · simp only [Option.bind_eq_some_iff] at e
      obtain ⟨xs, e1, e2⟩ := e
      exact seq xs _ e1 rfl e2
    · cases e
end
section
variable {X : Cx} {W : WX}
theorem de_ix {a b : Expr} {pos : Pos} {f g : En → R D} (hu : X.A.units + 1 < cLine) (ha : DE X W a f) (hb : DE X W b g) (hs : PlainIx b := by exact fun _ _ => rfl) : DE X W (.Subscript a b pos) (eOp idxD f g) :=
  pe_weak (pe_ix (ix_any hu) ha hb hs) fun _ _ _ => st_op
end
end DL
set_option Elab.async false
set_option linter.all false
set_option maxRecDepth 100000
set_option maxHeartbeats 2000000
namespace DL
open PySem PySem.Spec PyProof.Rows L2

/-! ### values that are new at the top -/
/-- what stands within the value can't be changed -/
def immTop : D → Bool
  | .lst xs => immAll xs
  | .tup xs => immAll xs
  | .dk _ xs => immAll xs
  | .dt _ xs => immAll xs
  | d => imm d
/-- fp: t new, f of old; nothing of old where all within is fixed -/
structure New (S : Addr → Prop) (H H' : Hp) (d : D) (fp : List Addr) : Prop where
  ex : ∃ t f, fp = t ++ f ∧ t.Nodup ∧ (∀ a ∈ t, H a = none ∧ Mut (H' a)) ∧ (∀ b ∈ f, S b ∨ H b = none) ∧ (immTop d = true → f = [])
theorem New.prov {S : Addr → Prop} {H H' : Hp} {d : D} {fp : List Addr} (n : New S H H' d fp) : ∀ a ∈ fp, S a ∨ H a = none := fun a ha => by
  obtain ⟨t, f, e, _, h1, h2, _⟩ := n.ex
  rw [e] at ha
  exact (List.mem_append.mp ha).elim (fun z => .inr (h1 a z).1) (h2 a)
theorem New.fresh {S : Addr → Prop} {H H' : Hp} {d : D} {fp : List Addr} (n : New S H H' d fp) (h : immTop d = true) : fp.Nodup ∧ ∀ a ∈ fp, H a = none ∧ Mut (H' a) := by
  obtain ⟨t, f, e, h0, h1, h2, h3⟩ := n.ex
  rw [h3 h, List.append_nil] at e
  subst e
  exact ⟨h0, h1⟩
theorem New.nil {S : Addr → Prop} {H H' : Hp} {d : D} : New S H H' d [] := ⟨[], [], rfl, List.nodup_nil, nf, nf, fun _ => rfl⟩
theorem New.one {S : Addr → Prop} {H H' : Hp} {d : D} {p : Addr} {f : List Addr} (hp : H p = none) (hm : Mut (H' p)) (h2 : ∀ b ∈ f, S b ∨ H b = none) (h3 : immTop d = true → f = []) : New S H H' d (p :: f) :=
  ⟨[p], f, rfl, by simp, by simpa using ⟨hp, hm⟩, h2, h3⟩
theorem New.old {S : Addr → Prop} {H H' : Hp} {d : D} {f : List Addr} (h2 : ∀ b ∈ f, S b ∨ H b = none) (h3 : immTop d = true → f = []) : New S H H' d f :=
  ⟨[], f, rfl, List.nodup_nil, nf, h2, h3⟩
theorem New.sm {S S' : Addr → Prop} {H H' H2 : Hp} {d : D} {fp : List Addr} (n : New S' H' H2 d fp) (e : Sm H H') (w : ∀ a, S' a → S a ∨ H a = none) : New S H H2 d fp := by
  obtain ⟨t, f, q, h0, h1, h2, h3⟩ := n.ex
  exact ⟨t, f, q, h0, fun a ha => ⟨e.back (h1 a ha).1, (h1 a ha).2⟩, fun b hb => (h2 b hb).elim (w b) fun z => .inr (e.back z), h3⟩
theorem mut_new {H : Hp} {p : Addr} {xs : List V} : Mut (upd H p (.lst xs) p) := by rw [upd_same]; trivial
def AfterQ (K : PySem.W.Frag) (mg : Str → Option Value) (S : Addr → Prop) (H : Hp) (d : D) (Q : VK) : Prop := ∀ v H' fp, Sm H H' → Val K mg H' d v fp → New S H H' d fp → Q v H'
def tQ (K : PySem.W.Frag) (mg : Str → Option Value) (W : WX) (f : En → R D) : TE := fun σ H Q => ∃ S env, PEnv K mg S env σ H ∧ Out mg W σ H (f env) fun d => AfterQ K mg S H d Q
abbrev DQ (X : Cx) (W : WX) (e : Expr) (f : En → R D) : Prop := PE X e (tQ X.K X.mg W f)
def eTop (f : En → R D) (env : En) : R D := f env >>= fun d => R.of (if immTop d = true then some d else none)
section
variable {X : Cx} {W : WX} {e : Expr} {f : En → R D}
theorem DQ.de (h : DQ X W e f) : DE X W e f := pe_weak h fun σ H Q ⟨S, env, P, q⟩ => ⟨S, env, P, q.imp fun d q v H' fp e hv n => q v H' fp e hv n.prov⟩
theorem DQ.df (h : DQ X W e f) : DF X W e (eTop f) := pe_weak h fun σ H Q ⟨S, env, P, q⟩ => ⟨S, env, P, q.bind.imp fun d q v H' fp e hv n => by
  obtain ⟨d', e1, q⟩ := Out.of q
  split at e1
  · rename_i hi
    cases e1
    obtain ⟨n1, n2⟩ := n.fresh hi
    exact q v H' fp e hv n1 n2
  · cases e1⟩
end

/-! ### two-place operations that make new values -/
def rQ (K : PySem.W.Frag) (mg : Str → Option Value) (F : D → D → Option D) : R2 := fun x y H Q => ∃ dx dy fx fy, Val K mg H dx x fx ∧ Val K mg H dy y fy ∧ ∃ d, F dx dy = some d ∧
  AfterQ K mg (fun a => a ∈ fx ∨ a ∈ fy) H d Q
theorem st_opQ {F : D → D → Option D} {f g : En → R D} {K : PySem.W.Frag} {mg : Str → Option Value} {W : WX} {σ : L2.St} {H : Hp} {Q : VK} (h : tQ K mg W (eOp F f g) σ H Q) : tOp (rQ K mg F) (tE K mg W f) (tE K mg W g) σ H Q := by
  obtain ⟨S, env, P, q⟩ := h
  refine stE P q fun d v H1 fp e hv hp q => stE (P.sm e) q fun d2 v2 H2 fp2 e2 hv2 hp2 q => ?_
  obtain ⟨r, er, q⟩ := Out.of q
  refine ⟨d, d2, fp, fp2, hv.sm e2, hv2, r, er, fun z H3 f3 e3 h3 n3 => q z H3 f3 ((e.trans e2).trans e3) h3 (n3.sm (e.trans e2) fun a ha => ?_)⟩
  rcases ha with z | z
  · exact hp a z
  · exact (hp2 a z).imp id fun z => e.back z
theorem dq_bin {X : Cx} {W : WX} {F : D → D → Option D} {op : Operator} {a b : Expr} {pos : Pos} {f g : En → R D} (ho : OpR X (binaryOp op) (rQ X.K X.mg F)) (ha : DE X W a f) (hb : DE X W b g) : DQ X W (.BinOp a op b pos) (eOp F f g) :=
  pe_weak (pe_op ho ha hb) fun _ _ _ => st_opQ
section
variable {K : PySem.W.Frag} {mg : Str → Option Value} {H : Hp}
theorem imm_app : ∀ (as bs : List D), immAll (as ++ bs) = (immAll as && immAll bs)
  | [], bs => by simp [immAll]
  | a :: as, bs => by simp only [List.cons_append, immAll, imm_app as bs, Bool.and_assoc]
variable {X : Cx}
theorem oq_add : OpR X (binaryOp .Add) (rQ X.K X.mg addD) := by
  intro pins s σ H x y v u Q I rx ry ⟨dx, dy, fx, fy, hx, hy, d, e, q⟩
  unfold addD at e
  split at e
  · cases e
    simp only [Val] at hx hy
    exact op_add pins s σ H x y v u Q I rx ry ⟨_, _, hx.1, hy.1, q _ H [] (Sm.refl H) val_int .nil⟩
  · split at e
    · cases e
      rename_i hz
      simp only [Val] at hx hy
      exact op_add_str pins s σ H x y v u Q I rx ry ⟨_, _, hx.1, hy.1, hz, q _ H [] (Sm.refl H) val_str .nil⟩
    · cases e
  · split at e
    · cases e
      rename_i hz
      simp only [Val] at hx hy
      obtain ⟨a, vs, f, e1, e2, h1, h2⟩ := hx
      obtain ⟨b, us, g, e3, e4, h3, h4⟩ := hy
      refine op_cat pins s σ H x y v u Q I rx ry ⟨a, b, vs, us, e1, e3, h1, h3, by rw [h2.length, h4.length]; exact hz, fun p hp => ?_⟩
      refine q _ _ _ (Sm.new hp) (val_lst upd_same ((h2.append h4).sm (Sm.new hp))) (.one hp mut_new (fun c hc => ?_) fun hi => ?_)
      · rcases List.mem_append.mp hc with z | z
        · exact .inl (.inl (by rw [e2]; exact List.mem_cons_of_mem _ z))
        · exact .inl (.inr (by rw [e4]; exact List.mem_cons_of_mem _ z))
      · have hi' := hi
        simp only [immTop, imm_app, Bool.and_eq_true] at hi'
        rw [VAll.imm _ h2 hi'.1, VAll.imm _ h4 hi'.2]; rfl
    · cases e
  · split at e
    · cases e
      rename_i xs ys hz
      simp only [Val] at hx hy
      obtain ⟨a, vs, e1, h1, h2⟩ := hx
      obtain ⟨b, us, e3, h3, h4⟩ := hy
      have all := h2.append h4
      have n : ∀ {H' : Hp}, New (fun a => a ∈ fx ∨ a ∈ fy) H H' (.tup (xs ++ ys)) (fx ++ fy) := fun {_} => .old (fun c hc => .inl (List.mem_append.mp hc)) fun hi => by
        have hi' := hi
        simp only [immTop, imm_app, Bool.and_eq_true] at hi'
        rw [VAll.imm _ h2 hi'.1, VAll.imm _ h4 hi'.2]; rfl
      refine op_catA pins s σ H x y v u Q I rx ry ⟨a, b, vs, us, e1, e3, .inl (.inl h1), .inl (.inl h3), by rw [h2.length, h4.length]; exact hz, fun e0 => ?_, fun _ e0 => ?_, fun _ _ p hp => ?_⟩
      · subst e0
        exact q _ H _ (Sm.refl H) (val_tup h3 (by simpa using all)) n
      · subst e0
        exact q _ H _ (Sm.refl H) (val_tup h1 (by simpa using all)) n
      · exact q _ _ _ (Sm.new hp) (val_tup upd_same (all.sm (Sm.new hp))) n
    · cases e
  · cases e
theorem oq_mul : OpR X (binaryOp .Mult) (rQ X.K X.mg mulD) := by
  intro pins s σ H x y v u Q I rx ry ⟨dx, dy, fx, fy, hx, hy, d, e, q⟩
  unfold mulD at e
  split at e
  · split at e
    · rename_i hz
      cases e
      simp only [Val] at hx hy
      exact op_mul pins s σ H x y v u Q I rx ry ⟨_, _, hx.1, hy.1, by simpa [CMul, fitMul] using hz, q _ H [] (Sm.refl H) val_int .nil⟩
    · cases e
  · split at e
    · rename_i hz
      cases e
      obtain ⟨z1, z2, z3, z4⟩ := hz
      simp only [Val] at hx hy
      obtain ⟨a, vs, f, e1, e2, h1, h2⟩ := hx
      have hf := VAll.imm _ h2 z4
      subst hf
      refine op_rep pins s σ H x y v u Q I rx ry ⟨a, _, vs, e1, hy.1, h1, z1, z2, by rw [h2.length]; exact z3, fun p hp => ?_⟩
      exact q _ _ _ (Sm.new hp) (val_lst upd_same ((VAll.rep h2 _).sm (Sm.new hp))) (.one hp mut_new nf fun _ => rfl)
    · cases e
  · cases e
end

/-! ### displays -/
def eLst (f : En → R (List D)) (env : En) : R D := f env >>= fun ds => R.of (if ds.length ≤ sizeLine then some (.lst ds) else none)
def eTup (f : En → R (List D)) (env : En) : R D := f env >>= fun ds => R.of (if ds.length ≤ sizeLine then some (.tup ds) else none)
def AfterLF (K : PySem.W.Frag) (mg : Str → Option Value) (H : Hp) (ds : List D) (Q : List V → Hp → Prop) : Prop := ∀ vs H' fp, Sm H H' → VAll K mg H' ds vs fp → fp.Nodup → (∀ a ∈ fp, H a = none ∧ Mut (H' a)) → Q vs H'
def tAF (K : PySem.W.Frag) (mg : Str → Option Value) (W : WX) (f : En → R (List D)) : TA := fun σ H Q => ∃ S env, PEnv K mg S env σ H ∧ Out mg W σ H (f env) fun ds => AfterLF K mg H ds Q
theorem mut_sm {H H' : Hp} (e : Sm H H') {a : Addr} (m : Mut (H a)) : Mut (H' a) := by
  cases q : H a with
  | none => rw [q] at m; exact m.elim
  | some o => rw [e a o q, ← q]; exact m
abbrev DAF (X : Cx) (W : WX) (es : List Expr) (f : En → R (List D)) : Prop := PA X es (tAF X.K X.mg W f)
section
variable {X : Cx} {W : WX} {pos : Pos}
theorem daf_nil : DAF X W [] eNil := pa_weak pa_nil fun σ H Q ⟨S, env, P, q⟩ => q [] H [] (Sm.refl H) VAll.nil List.nodup_nil nf
theorem daf_cons {e : Expr} {es : List Expr} {f : En → R D} {g : En → R (List D)} (h : DF X W e f) (t : DAF X W es g) (he : starEach (e :: es) X.env = (false, eval e X.env) :: starEach es X.env := by rfl) : DAF X W (e :: es) (eCons f g) :=
  pa_weak (pa_cons h t he) fun σ H Q ⟨S, env, P, q⟩ => by
    refine ⟨S, env, P, q.bind.imp fun d q v H1 fp e hv hn hp => ⟨S, env, P.sm e, (q.sm e).bind.imp fun ds q vs H2 fq e2 hvs hn2 hq => ?_⟩⟩
    refine q (v :: vs) H2 (fp ++ fq) (e.trans e2) (.cons (hv.sm e2) hvs) (List.nodup_append.mpr ⟨hn, hn2, fun a ha b hb z => ?_⟩) fun a ha => (List.mem_append.mp ha).elim (fun z => ⟨(hp a z).1, mut_sm e2 (hp a z).2⟩) fun z => ⟨e.back (hq a z).1, (hq a z).2⟩
    subst z
    exact hv.gone ha (hq a hb).1
theorem dq_lst {es : List Expr} {f : En → R (List D)} (h : DA X W es f) : DQ X W (.List es pos) (eLst f) := pe_weak (pe_lst h) fun σ H Q ⟨S, env, P, q⟩ => by
  refine stA P q fun ds vs H1 fp e hv hp q => ?_
  obtain ⟨d, ed, q⟩ := Out.of q
  split at ed
  · rename_i hz
    cases ed
    refine ⟨by rw [hv.length]; exact hz, fun p hn => q _ _ (p :: fp) (e.trans (Sm.new hn)) (val_lst upd_same (hv.sm (Sm.new hn))) (.one (e.back hn) mut_new hp fun hi => VAll.imm _ hv hi)⟩
  · cases ed
theorem df_lst {es : List Expr} {f : En → R (List D)} (h : DAF X W es f) : DF X W (.List es pos) (eLst f) := pe_weak (pe_lst h) fun σ H Q ⟨S, env, P, q⟩ => by
  refine ⟨S, env, P, q.bind.imp fun ds q vs H1 fp e hv hn hp => ?_⟩
  obtain ⟨d, ed, q⟩ := Out.of q
  split at ed
  · rename_i hz
    cases ed
    refine ⟨by rw [hv.length]; exact hz, fun p hpn => q _ _ (p :: fp) (e.trans (Sm.new hpn)) (val_lst upd_same (hv.sm (Sm.new hpn))) (List.nodup_cons.mpr ⟨fun z => ?_, hn⟩) fun a ha => ?_⟩
    · obtain ⟨o, h1, _⟩ := VAll.dom _ hv p z
      rw [hpn] at h1; cases h1
    · rcases List.mem_cons.mp ha with z | z
      · subst z; exact ⟨e.back hpn, mut_new⟩
      · exact ⟨(hp a z).1, mut_sm (Sm.new hpn) (hp a z).2⟩
  · cases ed
theorem dq_tup {x1} {es : List Expr} {f : En → R (List D)} (h : DA X W es f) : DQ X W (.Tuple es x1 pos) (eTup f) := pe_weak (pe_tup h) fun σ H Q ⟨S, env, P, q⟩ => by
  refine stA P q fun ds vs H1 fp e hv hp q => ?_
  obtain ⟨d, ed, q⟩ := Out.of q
  split at ed
  · rename_i hz
    cases ed
    refine ⟨by rw [hv.length]; exact hz, fun p hn => q _ _ fp (e.trans (Sm.new hn)) (val_tup upd_same (hv.sm (Sm.new hn))) (.old hp fun hi => VAll.imm _ hv hi)⟩
  · cases ed
theorem df_tup {x1} {es : List Expr} {f : En → R (List D)} (h : DAF X W es f) : DF X W (.Tuple es x1 pos) (eTup f) := pe_weak (pe_tup h) fun σ H Q ⟨S, env, P, q⟩ => by
  refine ⟨S, env, P, q.bind.imp fun ds q vs H1 fp e hv hn hp => ?_⟩
  obtain ⟨d, ed, q⟩ := Out.of q
  split at ed
  · rename_i hz
    cases ed
    exact ⟨by rw [hv.length]; exact hz, fun p hpn => q _ _ fp (e.trans (Sm.new hpn)) (val_tup upd_same (hv.sm (Sm.new hpn))) hn fun a ha => ⟨(hp a ha).1, mut_sm (Sm.new hpn) (hp a ha).2⟩⟩
  · cases ed
def eDk (_ : En) : R D := .ok (.dk [] [])
def eDt (_ : En) : R D := .ok (.dt [] [])
theorem df_dk : DF X W (.Dict [] [] pos) eDk := pe_weak pe_dnewK fun σ H Q ⟨S, env, P, q⟩ p hn =>
  q _ _ [p] (Sm.new hn) (by simp only [Val]; exact ⟨p, [], [], rfl, rfl, .inl upd_same, rfl, VAll.nil⟩) (by simp) (by simp only [List.mem_singleton]; rintro a rfl; exact ⟨hn, by rw [upd_same]; trivial⟩)
theorem df_dt : DF X W (.Dict [] [] pos) eDt := pe_weak pe_dnewT fun σ H Q ⟨S, env, P, q⟩ p hn =>
  q _ _ [p] (Sm.new hn) (by simp only [Val]; exact ⟨p, [], [], rfl, rfl, .inl upd_same, rfl, VAll.nil⟩) (by simp) (by simp only [List.mem_singleton]; rintro a rfl; exact ⟨hn, by rw [upd_same]; trivial⟩)
end

/-! ### slices -/
def cutD (xs : List D) (lo hi : Option Int) : List D := (xs.drop (HT.sIx xs.length 0 lo)).take (HT.sIx xs.length xs.length hi - HT.sIx xs.length 0 lo)
def sliceD (c : D) (lo hi : Option Int) : Option D := match c with
  | .lst xs => some (.lst (cutD xs lo hi))
  | .fz xs => some (.lst (cutD xs lo hi))
  | .tup xs => some (.tup (cutD xs lo hi))
  | .str z => if z.length ≤ sizeLine then some (.str (cutS z lo hi)) else none
  | _ => none
def asPart : D → Option (Option Int)
  | .int i => some (some i)
  | _ => none
def tP (K : PySem.W.Frag) (mg : Str → Option Value) (W : WX) (f : En → R (Option Int)) : TO := fun σ H Q => ∃ S env, PEnv K mg S env σ H ∧ Out mg W σ H (f env) fun o => ∀ H', Sm H H' → Q o H'
abbrev DP (X : Cx) (W : WX) (e : Option Expr) (f : En → R (Option Int)) : Prop := PO X e (tP X.K X.mg W f)
theorem po_weak {X : Cx} {e : Option Expr} {t t' : TO} (h : PO X e t) (w : ∀ σ H Q, t' σ H Q → t σ H Q) : PO X e t' := ⟨fun pins s σ H Q I q => h.run pins s σ H Q I (w σ H Q q)⟩
def eNone (_ : En) : R (Option Int) := .ok none
def ePart (f : En → R D) (env : En) : R (Option Int) := f env >>= fun d => R.of (asPart d)
def eSl (f : En → R D) (g h : En → R (Option Int)) (env : En) : R D := f env >>= fun c => g env >>= fun lo => h env >>= fun hi => R.of (sliceD c lo hi)
section
variable {X : Cx} {W : WX} {pos p2 : Pos}
theorem dp_none : DP X W none eNone := po_weak po_none fun σ H Q ⟨S, env, P, q⟩ => q H (Sm.refl H)
theorem dp_some {e : Expr} {f : En → R D} (h : DE X W e f) : DP X W (some e) (ePart f) := po_weak (po_some h) fun σ H Q ⟨S, env, P, q⟩ => by
  refine stE P q fun d v H' fp e hv hp q => ?_
  obtain ⟨o, eo, q⟩ := Out.of q
  cases d <;> simp [asPart] at eo
  subst eo
  simp only [Val] at hv
  exact ⟨_, hv.1, q H' e⟩
theorem VAll.drop {K : PySem.W.Frag} {mg : Str → Option Value} {H : Hp} {ds : List D} {vs : List V} {f : List Addr} (n : Nat) (h : VAll K mg H ds vs f) : ∃ g, VAll K mg H (ds.drop n) (vs.drop n) g ∧ ∀ a ∈ g, a ∈ f := by
  obtain ⟨g, g', h1, h2, h3⟩ := h.take n
  exact ⟨g', h2, fun a ha => by rw [h3]; exact List.mem_append_right _ ha⟩
theorem VAll.cut {K : PySem.W.Frag} {mg : Str → Option Value} {H : Hp} {ds : List D} {vs : List V} {f : List Addr} (lo hi : Option Int) (h : VAll K mg H ds vs f) : ∃ g, VAll K mg H (cutD ds lo hi) (cutV vs lo hi) g ∧ ∀ a ∈ g, a ∈ f := by
  obtain ⟨g, h1, h2⟩ := h.drop (HT.sIx ds.length 0 lo)
  obtain ⟨g1, g2, q1, q2, q3⟩ := h1.take (HT.sIx ds.length ds.length hi - HT.sIx ds.length 0 lo)
  refine ⟨g1, ?_, fun a ha => h2 a (by rw [q3]; exact List.mem_append_left _ ha)⟩
  unfold cutD cutV
  rw [h.length]
  exact q1
theorem sl_any : SlR X (fun x lo hi H Q => ∃ d fp, Val X.K X.mg H d x fp ∧ ∃ r, sliceD d lo hi = some r ∧ AfterQ X.K X.mg (fun a => a ∈ fp) H r Q) := by
  intro pins s σ H x v vl vu lo hi sl Q I rx hs pl pu ⟨d, fp, hv, r, er, q⟩
  have list : ∀ xs a vs f, SqL X.K H a vs → x = .ref a → VAll X.K X.mg H xs vs f → (∀ b ∈ f, b ∈ fp) → r = .lst (cutD xs lo hi) → ∃ T id, typeLookup (.type T) "__getitem__" = pure (some (.builtin id)) ∧ s.TypeIs v T ∧ wpAny (model X.prog X.w) X.A (getItem v (.ref sl)) (EP X pins σ Q) X.xe s := fun xs a vs f hq ex hv hf e => by
    obtain ⟨g, h1, h2⟩ := hv.cut lo hi
    subst e
    exact sl_list pins s σ H x v vl vu lo hi sl Q I rx hs pl pu ⟨a, vs, ex, hq, fun p hp => q _ _ (p :: g) (Sm.new hp) (val_lst upd_same (h1.sm (Sm.new hp))) (.one hp mut_new (fun b hb => .inl (hf b (h2 b hb))) fun hi => VAll.imm _ h1 hi)⟩
  unfold sliceD at er
  split at er
  · cases er
    simp only [Val] at hv
    obtain ⟨a, vs, f, e1, e2, h1, h2⟩ := hv
    exact list _ a vs f (.inl (.inl h1)) e1 h2 (fun b hb => by rw [e2]; exact List.mem_cons_of_mem _ hb) rfl
  · cases er
    simp only [Val] at hv
    obtain ⟨a, vs, e1, h1, h2⟩ := hv
    exact list _ a vs fp h1.sq e1 h2 (fun b hb => hb) rfl
  · cases er
    rename_i xs
    simp only [Val] at hv
    obtain ⟨a, vs, e1, h1, h2⟩ := hv
    obtain ⟨g, h3, h4⟩ := h2.cut lo hi
    refine sl_tupA pins s σ H x v vl vu lo hi sl Q I rx hs pl pu ⟨a, vs, e1, .inl (.inl h1), fun hw => ?_, fun _ p hp => ?_⟩
    · have e : cutD xs lo hi = xs := by
        unfold cutD
        rw [h2.length] at hw
        rw [hw.1, hw.2]
        simp
      rw [e] at q
      exact q _ H fp (Sm.refl H) (val_tup h1 h2) (.old (fun b hb => .inl hb) fun hi => VAll.imm _ h2 hi)
    · exact q _ _ g (Sm.new hp) (val_tup upd_same (h3.sm (Sm.new hp))) (.old (fun b hb => .inl (h4 b hb)) fun hi => VAll.imm _ h3 hi)
  · split at er
    · cases er
      rename_i hz
      simp only [Val] at hv
      exact sl_str pins s σ H x v vl vu lo hi sl Q I rx hs pl pu ⟨_, hv.1, hz, q _ H [] (Sm.refl H) val_str .nil⟩
    · cases er
  · cases er
theorem dq_slice {e : Expr} {lo hi : Option Expr} {f : En → R D} {g h : En → R (Option Int)} (he : DE X W e f) (hl : DP X W lo g) (hh : DP X W hi h) : DQ X W (.Subscript e (.Slice lo hi none p2) pos) (eSl f g h) :=
  pe_weak (pe_slice sl_any he hl hh) fun σ H Q ⟨S, env, P, q⟩ => by
    refine stE P q fun d v H1 fp e1 hv hp q => ?_
    refine ⟨S, env, P.sm e1, q.bind.imp fun o q H2 e2 => ⟨S, env, (P.sm e1).sm e2, (q.sm e2).bind.imp fun o2 q H3 e3 => ?_⟩⟩
    obtain ⟨r, er, q⟩ := Out.of q
    exact ⟨d, fp, (hv.sm e2).sm e3, r, er, fun v H4 f4 e4 h4 n4 => q v H4 f4 (((e1.trans e2).trans e3).trans e4) h4 (n4.sm ((e1.trans e2).trans e3) fun a ha => hp a ha)⟩
end
end DL
set_option Elab.async false
set_option linter.all false
set_option maxRecDepth 100000
set_option maxHeartbeats 2000000
namespace DL
open PySem PySem.Spec PyProof.Rows L2

/-! ### tests -/
/-- a value's truth -/
def truB : D → Option Bool
  | .non => some false
  | .bl b => some b
  | .int i => some (i != 0)
  | .tup xs => some (!xs.isEmpty)
  | .lst xs => some (!xs.isEmpty)
  | _ => none
def eTru (f : En → R D) (env : En) : R Bool := f env >>= fun d => R.of (truB d)
def eAndT (f g : En → R Bool) (env : En) : R Bool := f env >>= fun c => if c = true then g env else .ok false
def eOrT (f g : En → R Bool) (env : En) : R Bool := f env >>= fun c => if c = true then .ok true else g env
def eNotT (f : En → R Bool) (env : En) : R Bool := f env >>= fun c => .ok (!c)
abbrev DW (X : Cx) (W : WX) (e : Expr) (f : En → R Bool) : Prop := PW X e (tT X.K X.mg W f)
theorem pw_weak {X : Cx} {e : Expr} {t t' : TT} (h : PW X e t) (w : ∀ σ H Q, t' σ H Q → t σ H Q) : PW X e t' := ⟨fun wh pins s σ H Q I q => h.run wh pins s σ H Q I (w σ H Q q)⟩
section
variable {X : Cx} {W : WX} {pos : Pos} {a b : Expr} {rest : List Expr}
theorem dt_val {f : En → R D} (h : DE X W a f) (he : ∀ whole, isTrue a X.env whole = (do let v ← whole; standAt a.pos; holding [v] (truthy v)) := by intro _; rfl) : DT X W a (eB f) :=
  pt_weak (pt_val h he) fun σ H Q ⟨S, env, P, q⟩ => by
    refine stE P q fun d v H' fp e hv hp q => ?_
    obtain ⟨b, e1, q⟩ := Out.of q
    exact ⟨b, asB_val hv e1, q H' e⟩
theorem VAll.isEmpty {K : PySem.W.Frag} {mg : Str → Option Value} {H : Hp} {ds : List D} {vs : List V} {f : List Addr} (h : VAll K mg H ds vs f) : vs.isEmpty = ds.isEmpty := by
  have := h.length
  cases vs <;> cases ds <;> simp_all
theorem tru_of {K : PySem.W.Frag} {mg : Str → Option Value} {H : Hp} {d : D} {v : V} {fp : List Addr} {b : Bool} (h : Val K mg H d v fp) (e : truB d = some b) : TruV K v H b := by
  cases d <;> simp only [truB, Option.some.injEq, reduceCtorEq] at e <;> simp only [Val] at h
  · rw [h.1]; exact e.symm
  · rw [h.1]; exact e.symm
  · rw [h.1]; exact e.symm
  · obtain ⟨a, vs, q1, q2, q3⟩ := h
    rw [q1]
    refine .inr (.inl ⟨vs, .inl (.inl q2), ?_⟩)
    rw [← e, q3.isEmpty]
  · obtain ⟨a, vs, f, q1, q2, q3, q4⟩ := h
    rw [q1]
    refine .inl ⟨vs, .inl (.inl q3), ?_⟩
    rw [← e, q4.isEmpty]
theorem dt_tru {f : En → R D} (h : DE X W a f) (he : ∀ whole, isTrue a X.env whole = (do let v ← whole; standAt a.pos; holding [v] (truthy v)) := by intro _; rfl) : DT X W a (eTru f) :=
  pt_weak (pt_truth h he) fun σ H Q ⟨S, env, P, q⟩ => by
    refine stE P q fun d v H' fp e hv hp q => ?_
    obtain ⟨b, e1, q⟩ := Out.of q
    exact ⟨b, tru_of hv e1, q H' e⟩
theorem dt_not {f : En → R Bool} (h : DT X W a f) : DT X W (.UnaryOp .Not a pos) (eNotT f) := pt_weak (pt_not h) fun σ H Q ⟨S, env, P, q⟩ => by
  exact stT P q fun c H' e q => q H' e
theorem dw_and1 {f : En → R Bool} (h : DT X W a f) : DW X W (.BoolOp .And [a] pos) f := pw_and1 h
theorem dw_or1 {f : En → R Bool} (h : DT X W a f) : DW X W (.BoolOp .Or [a] pos) f := pw_or1 h
theorem st_and {K : PySem.W.Frag} {mg : Str → Option Value} {f g : En → R Bool} {σ : L2.St} {H : Hp} {Q : Bool → Hp → Prop} (h : tT K mg W (eAndT f g) σ H Q) : tAnd (tT K mg W f) (tT K mg W g) σ H Q := by
  obtain ⟨S, env, P, q⟩ := h
  refine ⟨S, env, P, q.bind.imp fun c q H' e => ?_⟩
  cases c with
  | true => simp only [if_true] at q ⊢; exact ⟨S, env, P.sm e, (q.sm e).imp fun b q H2 e2 => q H2 (e.trans e2)⟩
  | false => simp only [Bool.false_eq_true, if_false] at q ⊢; exact q H' e
theorem st_or {K : PySem.W.Frag} {mg : Str → Option Value} {f g : En → R Bool} {σ : L2.St} {H : Hp} {Q : Bool → Hp → Prop} (h : tT K mg W (eOrT f g) σ H Q) : tOr (tT K mg W f) (tT K mg W g) σ H Q := by
  obtain ⟨S, env, P, q⟩ := h
  refine ⟨S, env, P, q.bind.imp fun c q H' e => ?_⟩
  cases c with
  | false => simp only [Bool.false_eq_true, if_false] at q ⊢; exact ⟨S, env, P.sm e, (q.sm e).imp fun b q H2 e2 => q H2 (e.trans e2)⟩
  | true => simp only [if_true] at q ⊢; exact q H' e
theorem dw_and {f g : En → R Bool} (ha : DT X W a f) (hb : DW X W (.BoolOp .And (b :: rest) pos) g) : DW X W (.BoolOp .And (a :: b :: rest) pos) (eAndT f g) := pw_weak (pw_and ha hb) fun _ _ _ => st_and
theorem dw_or {f g : En → R Bool} (ha : DT X W a f) (hb : DW X W (.BoolOp .Or (b :: rest) pos) g) : DW X W (.BoolOp .Or (a :: b :: rest) pos) (eOrT f g) := pw_weak (pw_or ha hb) fun _ _ _ => st_or
/-! ### and, or, not as values -/
def eAnd (f g : En → R D) (env : En) : R D := f env >>= fun d => R.of (asB d) >>= fun c => if c = true then g env else .ok (.bl false)
def eOr (f g : En → R D) (env : En) : R D := f env >>= fun d => R.of (asB d) >>= fun c => if c = true then .ok (.bl true) else g env
def eNot (f : En → R D) (env : En) : R D := f env >>= fun d => R.of (asB d) >>= fun c => .ok (.bl (!c))
theorem de_one {op} {f : En → R D} (h : DE X W a f) : DE X W (.BoolOp op [a] pos) f := pe_one h
theorem de_and {f g : En → R D} (ha : DE X W a f) (hb : DE X W (.BoolOp .And (b :: rest) pos) g) : DE X W (.BoolOp .And (a :: b :: rest) pos) (eAnd f g) := pe_weak (pe_and ha hb) fun σ H Q ⟨S, env, P, q⟩ => by
  refine stE P q fun d v H' fp e hv hp q => ?_
  obtain ⟨c, e1, q⟩ := Out.of q.bind
  refine ⟨c, asB_val hv e1, ?_⟩
  cases c with
  | true => simp only [if_true] at q ⊢; exact ⟨S, env, P.sm e, q.imp fun b q => After.sm q e⟩
  | false => simp only [Bool.false_eq_true, if_false] at q ⊢; exact q _ H' [] e val_bl nf
theorem de_or {f g : En → R D} (ha : DE X W a f) (hb : DE X W (.BoolOp .Or (b :: rest) pos) g) : DE X W (.BoolOp .Or (a :: b :: rest) pos) (eOr f g) := pe_weak (pe_or ha hb) fun σ H Q ⟨S, env, P, q⟩ => by
  refine stE P q fun d v H' fp e hv hp q => ?_
  obtain ⟨c, e1, q⟩ := Out.of q.bind
  refine ⟨c, asB_val hv e1, ?_⟩
  cases c with
  | false => simp only [Bool.false_eq_true, if_false] at q ⊢; exact ⟨S, env, P.sm e, q.imp fun b q => After.sm q e⟩
  | true => simp only [if_true] at q ⊢; exact q _ H' [] e val_bl nf
theorem de_not {f : En → R D} (h : DE X W a f) : DE X W (.UnaryOp .Not a pos) (eNot f) := pe_weak (pe_not h) fun σ H Q ⟨S, env, P, q⟩ => by
  refine stE P q fun d v H' fp e hv hp q => ?_
  obtain ⟨c, e1, q⟩ := Out.of q.bind
  exact ⟨c, asB_val hv e1, q _ H' [] e val_bl nf⟩
def eNeg (f : En → R D) (env : En) : R D := f env >>= fun d => match d with
  | .int i => .ok (.int (-i))
  | _ => .no
theorem de_neg {f : En → R D} (h : DE X W a f) : DE X W (.UnaryOp .USub a pos) (eNeg f) := pe_weak (pe_un un_neg h) fun σ H Q ⟨S, env, P, q⟩ => by
  refine stE P q fun d v H' fp e hv hp q => ?_
  cases d <;> first | exact q.elim | skip
  simp only [Val] at hv
  exact ⟨_, hv.1, q _ H' [] e val_int nf⟩
/-! ### a if t else b -/
def eIf {c : Type} (t : En → R Bool) (f g : En → R c) (env : En) : R c := t env >>= fun b => if b = true then f env else g env
theorem de_if {c : Expr} {t : En → R Bool} {f g : En → R D} (hc : DT X W c t) (ha : DE X W a f) (hb : DE X W b g) : DE X W (.IfExp c a b pos) (eIf t f g) := pe_weak (pe_ifExp hc ha hb) fun σ H Q ⟨S, env, P, q⟩ => by
  refine stT P q fun c H' e q => ?_
  cases c with
  | true => simp only [if_true] at q ⊢; exact ⟨S, env, P.sm e, q.imp fun b q => After.sm q e⟩
  | false => simp only [Bool.false_eq_true, if_false] at q ⊢; exact ⟨S, env, P.sm e, q.imp fun b q => After.sm q e⟩
theorem df_if {c : Expr} {t : En → R Bool} {f g : En → R D} (hc : DT X W c t) (ha : DF X W a f) (hb : DF X W b g) : DF X W (.IfExp c a b pos) (eIf t f g) := pe_weak (pe_ifExp hc ha hb) fun σ H Q ⟨S, env, P, q⟩ => by
  refine stT P q fun c H' e q => ?_
  cases c with
  | true => simp only [if_true] at q ⊢; exact ⟨S, env, P.sm e, q.imp fun b q v H2 fp e2 h n z => q v H2 fp (e.trans e2) h n fun a ha => ⟨e.back (z a ha).1, (z a ha).2⟩⟩
  | false => simp only [Bool.false_eq_true, if_false] at q ⊢; exact ⟨S, env, P.sm e, q.imp fun b q v H2 fp e2 h n z => q v H2 fp (e.trans e2) h n fun a ha => ⟨e.back (z a ha).1, (z a ha).2⟩⟩
end

/-! ### built-in functions by values -/
def rCD (K : PySem.W.Frag) (mg : Str → Option Value) (F : List D → Option D) : List V → Hp → VK → Prop := fun xs H Q => ∃ ds fp, VAll K mg H ds xs fp ∧ ∃ d, F ds = some d ∧ AfterQ K mg (fun a => a ∈ fp) H d Q
def eCall (F : List D → Option D) (g : En → R (List D)) (env : En) : R D := g env >>= fun ds => R.of (F ds)
section
variable {X : Cx} {W : WX} {x : Str} {p pos : Pos} {e : Expr} {es : List Expr} {id T : String} {F : List D → Option D} {g : En → R (List D)}
theorem st_call {K : PySem.W.Frag} {mg : Str → Option Value} {σ : L2.St} {H : Hp} {Q : VK} (h : tQ K mg W (eCall F g) σ H Q) : tCB (rCD K mg F) (tA K mg W g) σ H Q := by
  obtain ⟨S, env, P, q⟩ := h
  refine stA P q fun ds vs H1 fp e hv hp q => ?_
  obtain ⟨r, er, q⟩ := Out.of q
  exact ⟨ds, fp, hv, r, er, fun v H2 f2 e2 h2 n2 => q v H2 f2 (e.trans e2) h2 (n2.sm e fun a ha => hp a ha)⟩
theorem dq_callB (hc : CallR X (.builtin id) (rCD X.K X.mg F)) (hm : X.mg x = none) (hv : bootBuiltins x = some (.builtin id)) (ha : DA X W (e :: es) g) (hg : Gl X x := by rfl) (hn : x ≠ "__name__" := by decide) (hdb : (x == ("__debug__" : Str)) = false := by decide)
    (he : starEach (e :: es) X.env = (false, eval e X.env) :: starEach es X.env := by rfl) (hpl : (backTo pos (starEach es X.env)).any (·.1) = false := by rfl) : DQ X W (.Call (.Name x p) (e :: es) [] pos) (eCall F g) :=
  pe_weak (pe_callB hc hg hm hv ha hn hdb he hpl) fun _ _ _ => st_call
theorem dq_callTy (hc : CallR X (.type T) (rCD X.K X.mg F)) (hm : X.mg x = none) (hv : bootBuiltins x = some (.type T)) (ha : DA X W (e :: es) g) (hg : Gl X x := by rfl) (hn : x ≠ "__name__" := by decide) (hdb : (x == ("__debug__" : Str)) = false := by decide)
    (he : starEach (e :: es) X.env = (false, eval e X.env) :: starEach es X.env := by rfl) (hpl : (backTo pos (starEach es X.env)).any (·.1) = false := by rfl) : DQ X W (.Call (.Name x p) (e :: es) [] pos) (eCall F g) :=
  pe_weak (pe_callTy hc hg hm hv ha hn hdb he hpl) fun _ _ _ => st_call
end
section
variable {K : PySem.W.Frag} {mg : Str → Option Value} {H : Hp}
theorem VAll.inv1 {d : D} {vs : List V} {fp : List Addr} (h : VAll K mg H [d] vs fp) : ∃ v, vs = [v] ∧ Val K mg H d v fp := by
  simp only [VAll] at h
  obtain ⟨v, vr, f, g, e, ef, h1, h2, h3⟩ := h
  exact ⟨v, by rw [e, h2], by rw [ef, h3, List.append_nil]; exact h1⟩
theorem VAll.inv2 {d d2 : D} {vs : List V} {fp : List Addr} (h : VAll K mg H [d, d2] vs fp) : ∃ v v2 f f2, vs = [v, v2] ∧ fp = f ++ f2 ∧ Val K mg H d v f ∧ Val K mg H d2 v2 f2 := by
  simp only [VAll] at h
  obtain ⟨v, vr, f, g, e, ef, h1, v2, vr2, f2, g2, e2, ef2, h2, h3, h4⟩ := h
  exact ⟨v, v2, f, f2, by rw [e, e2, h3], by rw [ef, ef2, h4, List.append_nil], h1, h2⟩
end
/-- len -/
def lenB : D → Option Nat
  | .str z => if z.length ≤ sizeLine then some z.length else none
  | .dk ks _ => some ks.length
  | .dt ks _ => some ks.length
  | d => (items d).map (·.length)
def lenF : List D → Option D
  | [d] => (lenB d).map fun (n : Nat) => .int (n : Int)
  | _ => none
def intF : List D → Option D
  | [.int i] => some (.int i)
  | [.bl b] => some (.int (if b then 1 else 0))
  | _ => none
def absF : List D → Option D
  | [.int i] => some (.int (if i < 0 then -i else i))
  | _ => none
def strF : List D → Option D
  | [.int i] => if i.natAbs.log2 < 1920 then some (.str (toString i)) else none
  | _ => none
def minL : List Int → Option Int
  | [] => none
  | [x] => some x
  | x :: xs => (minL xs).map fun m => if x ≤ m then x else m
def maxL : List Int → Option Int
  | [] => none
  | [x] => some x
  | x :: xs => (maxL xs).map fun m => if m ≤ x then x else m
def minF : List D → Option D
  | [.int i, .int j] => some (.int (if j < i then j else i))
  | [.lst xs] => (intsD xs).bind fun ns => (minL ns).map .int
  | _ => none
def maxF : List D → Option D
  | [.int i, .int j] => some (.int (if j > i then j else i))
  | [.lst xs] => (intsD xs).bind fun ns => (maxL ns).map .int
  | _ => none
def sumF : List D → Option D
  | [.lst xs] => (intsD xs).map fun ns => .int ns.sum
  | _ => none
def blsD : List D → Option (List Bool)
  | [] => some []
  | .bl b :: r => (blsD r).map (b :: ·)
  | _ :: _ => none
def anyF : List D → Option D
  | [.lst xs] => (blsD xs).map fun bs => .bl (bs.any fun b => b)
  | _ => none
def allF : List D → Option D
  | [.lst xs] => (blsD xs).map fun bs => .bl (bs.all fun b => b)
  | _ => none
def listF : List D → Option D
  | [d] => (items d).map .lst
  | _ => none
def tupleF : List D → Option D
  | [.lst xs] => some (.tup xs)
  | [.fz xs] => some (.tup xs)
  | [.tup xs] => some (.tup xs)
  | _ => none
theorem minL_spec : ∀ (ns : List Int) (m : Int), minL ns = some m → m ∈ ns ∧ ∀ y ∈ ns, m ≤ y
  | [], m, h => by simp [minL] at h
  | [x], m, h => by simp [minL] at h; subst h; simp
  | x :: y :: r, m, h => by
    simp only [minL, Option.map_eq_some_iff] at h
    obtain ⟨k, h1, h2⟩ := h
    obtain ⟨i1, i2⟩ := minL_spec (y :: r) k h1
    subst h2
    split
    · rename_i hx
      refine ⟨List.mem_cons_self, fun z hz => ?_⟩
      rcases List.mem_cons.mp hz with e | e
      · omega
      · have := i2 z e; omega
    · rename_i hx
      refine ⟨List.mem_cons_of_mem _ i1, fun z hz => ?_⟩
      rcases List.mem_cons.mp hz with e | e
      · omega
      · exact i2 z e
theorem maxL_spec : ∀ (ns : List Int) (m : Int), maxL ns = some m → m ∈ ns ∧ ∀ y ∈ ns, y ≤ m
  | [], m, h => by simp [maxL] at h
  | [x], m, h => by simp [maxL] at h; subst h; simp
  | x :: y :: r, m, h => by
    simp only [maxL, Option.map_eq_some_iff] at h
    obtain ⟨k, h1, h2⟩ := h
    obtain ⟨i1, i2⟩ := maxL_spec (y :: r) k h1
    subst h2
    split
    · rename_i hx
      refine ⟨List.mem_cons_self, fun z hz => ?_⟩
      rcases List.mem_cons.mp hz with e | e
      · omega
      · have := i2 z e; omega
    · rename_i hx
      refine ⟨List.mem_cons_of_mem _ i1, fun z hz => ?_⟩
      rcases List.mem_cons.mp hz with e | e
      · omega
      · exact i2 z e
section
variable {K : PySem.W.Frag} {mg : Str → Option Value} {H : Hp}
theorem VAll.bls : ∀ {ds : List D} {vs : List V} {f : List Addr} {bs : List Bool}, VAll K mg H ds vs f → blsD ds = some bs → vs = bs.map V.bl
  | [], vs, f, ns, h, e => by
    simp only [VAll] at h
    simp only [blsD, Option.some.injEq] at e
    rw [h.1, ← e]; rfl
  | d :: ds, vs, f, ns, h, e => by
    simp only [VAll] at h
    obtain ⟨v, vr, f1, g, ev, ef, h1, h2⟩ := h
    cases d <;> simp only [blsD, reduceCtorEq, Option.map_eq_some_iff] at e
    obtain ⟨ms, e1, e2⟩ := e
    simp only [Val] at h1
    rw [ev, ← e2, h1.1, VAll.bls h2 e1]; rfl
variable {X : Cx}
theorem cr_len : CallR X (.builtin "len") (rCD X.K X.mg lenF) := by
  intro pins s σ H xs us Q I r ⟨ds, fp, hv, d, e, q⟩
  match ds, hv, e with
  | [d0], hv, e' =>
    clear e
    simp only [lenF, Option.map_eq_some_iff] at e'
    obtain ⟨n, e, ed⟩ := e'
    subst ed
    obtain ⟨v, exs, hv1⟩ := hv.inv1; clear hv; subst exs; have hv := hv1; clear hv1
    have fin := q (.int n) H [] (Sm.refl H) val_int .nil
    have seq : ∀ ys, items d0 = some ys → n = ys.length → wpAny (model X.prog X.w) X.A (call (.builtin "len") us) (EP X pins σ Q) X.xe s := fun ys h1 h2 => by
      obtain ⟨a, vs, f, ex, hsq, hv', hf⟩ := hv.seq h1
      subst ex
      exact call_len_seq pins s σ H _ us Q I r ⟨a, vs, rfl, hsq, by rw [hv'.length, ← h2]; exact fin⟩
    unfold lenB at e
    split at e
    · split at e
      · rename_i hz
        cases e
        simp only [Val] at hv
        exact call_len_str pins s σ H _ us Q I r ⟨_, by rw [hv.1], hz, fin⟩
      · cases e
    · cases e
      simp only [Val] at hv
      obtain ⟨a, kvs, f, e1, e2, e3, e4, e5⟩ := hv
      subst e1
      obtain ⟨u, rfl, ru⟩ := vals1 r
      cases ru
      rw [← e4, List.length_map] at fin
      exact d_len I e3 fun t s' I' => ⟨.int (kvs.length : Nat), H, I', ⟨t, rfl⟩, fin⟩
    · cases e
      simp only [Val] at hv
      obtain ⟨a, kvs, f, e1, e2, e3, e4, e5⟩ := hv
      subst e1
      obtain ⟨u, rfl, ru⟩ := vals1 r
      cases ru
      rw [← e4, List.length_map] at fin
      obtain ⟨z, hd, ys, rel, dd⟩ := dt_rd I.hok e3
      have hl : kvs.length = ys.length := Paired.length rel
      refine PySem.call_len_dictH hd dd (by rw [← hl]; rw [sizeLine_eq] at z; omega) ?_
      rw [← hl]
      exact ⟨.int ((kvs.length : Nat) : Int), H, I.tok _, ⟨_, rfl⟩, fin⟩
    · simp only [Option.map_eq_some_iff] at e
      obtain ⟨ys, e1, e2⟩ := e
      exact seq ys e1 e2.symm
  | [], _, e => simp [lenF] at e
  | _ :: _ :: _, _, e => simp [lenF] at e
theorem cr_int : CallR X (.type "int") (rCD X.K X.mg intF) := by
  intro pins s σ H xs us Q I r ⟨ds, fp, hv, d, e, q⟩
  unfold intF at e
  split at e
  · cases e
    obtain ⟨v, exs, hv1⟩ := hv.inv1; clear hv; subst exs; have hv := hv1; clear hv1
    simp only [Val] at hv
    exact call_int1 pins s σ H _ us Q I r (.inl ⟨_, by rw [hv.1], q _ H [] (Sm.refl H) val_int .nil⟩)
  · cases e
    obtain ⟨v, exs, hv1⟩ := hv.inv1; clear hv; subst exs; have hv := hv1; clear hv1
    simp only [Val] at hv
    exact call_int1 pins s σ H _ us Q I r (.inr ⟨_, by rw [hv.1], q _ H [] (Sm.refl H) val_int .nil⟩)
  · cases e
theorem cr_abs : CallR X (.builtin "abs") (rCD X.K X.mg absF) := by
  intro pins s σ H xs us Q I r ⟨ds, fp, hv, d, e, q⟩
  unfold absF at e
  split at e
  · cases e
    obtain ⟨v, exs, hv1⟩ := hv.inv1; clear hv; subst exs; have hv := hv1; clear hv1
    simp only [Val] at hv
    exact call_abs pins s σ H _ us Q I r ⟨_, by rw [hv.1], q _ H [] (Sm.refl H) val_int .nil⟩
  · cases e
theorem cr_str : CallR X (.type "str") (rCD X.K X.mg strF) := by
  intro pins s σ H xs us Q I r ⟨ds, fp, hv, d, e, q⟩
  unfold strF at e
  split at e
  · split at e
    · rename_i hz
      cases e
      obtain ⟨v, exs, hv1⟩ := hv.inv1; clear hv; subst exs; have hv := hv1; clear hv1
      simp only [Val] at hv
      exact call_str_int pins s σ H _ us Q I r ⟨_, by rw [hv.1], hz, q _ H [] (Sm.refl H) val_str .nil⟩
    · cases e
  · cases e
theorem Val.lstInts {xs : List D} {v : V} {fp : List Addr} {ns : List Int} (h : Val K mg H (.lst xs) v fp) (e : intsD xs = some ns) : ∃ a, v = .ref a ∧ SqL K H a (ns.map V.int) := by
  simp only [Val] at h
  obtain ⟨a, vs, f, q1, q2, q3, q4⟩ := h
  exact ⟨a, q1, .inl (.inl (by rw [q3, VAll.intsD q4 e]))⟩
theorem cr_minD (hc : X.calm = true) : CallR X (.builtin "min") (rCD X.K X.mg minF) := by
  intro pins s σ H xs us Q I r ⟨ds, fp, hv, d, e, q⟩
  unfold minF at e
  split at e
  · cases e
    obtain ⟨v, v2, f, f2, rfl, ef, h1, h2⟩ := hv.inv2
    simp only [Val] at h1 h2
    exact call_min2 hc pins s σ H _ us Q I r ⟨_, _, by rw [h1.1, h2.1], q _ H [] (Sm.refl H) val_int .nil⟩
  · simp only [Option.bind_eq_some_iff, Option.map_eq_some_iff] at e
    obtain ⟨ns, e1, m, e2, rfl⟩ := e
    obtain ⟨v, exs, hv1⟩ := hv.inv1; clear hv; subst exs; have hv := hv1; clear hv1
    obtain ⟨a, rfl, hs⟩ := hv.lstInts e1
    obtain ⟨m1, m2⟩ := minL_spec ns m e2
    refine cr_min hc pins s σ H _ us Q I r ⟨a, ns, rfl, hs, List.length_pos_of_mem m1, fun m' h1 h2 => ?_⟩
    have e : m' = m := by have := h2 m m1; have := m2 m' h1; omega
    subst e
    exact q _ H [] (Sm.refl H) val_int .nil
  · cases e
theorem cr_maxD (hc : X.calm = true) : CallR X (.builtin "max") (rCD X.K X.mg maxF) := by
  intro pins s σ H xs us Q I r ⟨ds, fp, hv, d, e, q⟩
  unfold maxF at e
  split at e
  · cases e
    obtain ⟨v, v2, f, f2, rfl, ef, h1, h2⟩ := hv.inv2
    simp only [Val] at h1 h2
    exact call_max2 hc pins s σ H _ us Q I r ⟨_, _, by rw [h1.1, h2.1], q _ H [] (Sm.refl H) val_int .nil⟩
  · simp only [Option.bind_eq_some_iff, Option.map_eq_some_iff] at e
    obtain ⟨ns, e1, m, e2, rfl⟩ := e
    obtain ⟨v, exs, hv1⟩ := hv.inv1; clear hv; subst exs; have hv := hv1; clear hv1
    obtain ⟨a, rfl, hs⟩ := hv.lstInts e1
    obtain ⟨m1, m2⟩ := maxL_spec ns m e2
    refine cr_max hc pins s σ H _ us Q I r ⟨a, ns, rfl, hs, List.length_pos_of_mem m1, fun m' h1 h2 => ?_⟩
    have e : m' = m := by have := h2 m m1; have := m2 m' h1; omega
    subst e
    exact q _ H [] (Sm.refl H) val_int .nil
  · cases e
theorem cr_sumD (hc : X.calm = true) : CallR X (.builtin "sum") (rCD X.K X.mg sumF) := by
  intro pins s σ H xs us Q I r ⟨ds, fp, hv, d, e, q⟩
  unfold sumF at e
  split at e
  · simp only [Option.map_eq_some_iff] at e
    obtain ⟨ns, e1, rfl⟩ := e
    obtain ⟨v, exs, hv1⟩ := hv.inv1; clear hv; subst exs; have hv := hv1; clear hv1
    obtain ⟨a, rfl, hs⟩ := hv.lstInts e1
    exact cr_sum hc pins s σ H _ us Q I r ⟨a, ns, rfl, hs, q _ H [] (Sm.refl H) val_int .nil⟩
  · cases e
theorem Val.lstBls {xs : List D} {v : V} {fp : List Addr} {bs : List Bool} (h : Val K mg H (.lst xs) v fp) (e : blsD xs = some bs) : ∃ a, v = .ref a ∧ SqL K H a (bs.map V.bl) := by
  simp only [Val] at h
  obtain ⟨a, vs, f, q1, q2, q3, q4⟩ := h
  exact ⟨a, q1, .inl (.inl (by rw [q3, VAll.bls q4 e]))⟩
theorem cr_anyD (hc : X.calm = true) : CallR X (.builtin "any") (rCD X.K X.mg anyF) := by
  intro pins s σ H xs us Q I r ⟨ds, fp, hv, d, e, q⟩
  unfold anyF at e
  split at e
  · simp only [Option.map_eq_some_iff] at e
    obtain ⟨bs, e1, rfl⟩ := e
    obtain ⟨v, exs, hv1⟩ := hv.inv1; clear hv; subst exs; have hv := hv1; clear hv1
    obtain ⟨a, rfl, hs⟩ := hv.lstBls e1
    exact cr_any hc pins s σ H _ us Q I r ⟨a, bs, rfl, hs, q _ H [] (Sm.refl H) val_bl .nil⟩
  · cases e
theorem cr_allD (hc : X.calm = true) : CallR X (.builtin "all") (rCD X.K X.mg allF) := by
  intro pins s σ H xs us Q I r ⟨ds, fp, hv, d, e, q⟩
  unfold allF at e
  split at e
  · simp only [Option.map_eq_some_iff] at e
    obtain ⟨bs, e1, rfl⟩ := e
    obtain ⟨v, exs, hv1⟩ := hv.inv1; clear hv; subst exs; have hv := hv1; clear hv1
    obtain ⟨a, rfl, hs⟩ := hv.lstBls e1
    exact cr_all hc pins s σ H _ us Q I r ⟨a, bs, rfl, hs, q _ H [] (Sm.refl H) val_bl .nil⟩
  · cases e
theorem cr_list : CallR X (.type "list") (rCD X.K X.mg listF) := by
  intro pins s σ H xs us Q I r ⟨ds, fp, hv, d, e, q⟩
  match ds, e with
  | [d0], e =>
    simp only [listF, Option.map_eq_some_iff] at e
    obtain ⟨ys, e1, rfl⟩ := e
    obtain ⟨v, exs, hv1⟩ := hv.inv1; clear hv; subst exs; have hv := hv1; clear hv1
    obtain ⟨a, vs, f, ex, hsq, hv', hf⟩ := hv.seq e1
    subst ex
    exact call_list_of pins s σ H _ us Q I r ⟨a, vs, rfl, hsq, fun l hl => q _ _ (l :: f) (Sm.new hl) (val_lst upd_same (hv'.sm (Sm.new hl))) (.one hl mut_new (fun b hb => .inl (hf b hb)) fun hi => VAll.imm _ hv' hi)⟩
  | [], e => simp [listF] at e
  | _ :: _ :: _, e => simp [listF] at e
theorem cr_tuple : CallR X (.type "tuple") (rCD X.K X.mg tupleF) := by
  intro pins s σ H xs us Q I r ⟨ds, fp, hv, d, e, q⟩
  have new : ∀ ys a vs f, SqL X.K H a vs → VAll X.K X.mg H ys vs f → (∀ b ∈ f, b ∈ fp) → d = .tup ys → xs = [.ref a] → wpAny (model X.prog X.w) X.A (call (.type "tuple") us) (EP X pins σ Q) X.xe s := fun ys a vs f hq hw hf ed ex => by
    subst ed ex
    exact call_tuple_of pins s σ H _ us Q I r ⟨a, vs, rfl, .inl ⟨hq, fun l hl => q _ _ f (Sm.new hl) (val_tup upd_same (hw.sm (Sm.new hl))) (.old (fun b hb => .inl (hf b hb)) fun hi => VAll.imm _ hw hi)⟩⟩
  unfold tupleF at e
  split at e
  · cases e
    obtain ⟨v, exs, hv1⟩ := hv.inv1; clear hv; subst exs; have hv := hv1; clear hv1
    simp only [Val] at hv
    obtain ⟨a, vs, f, e1, e2, h1, h2⟩ := hv
    subst e1
    exact new _ a vs f (.inl (.inl h1)) h2 (fun b hb => by rw [e2]; exact List.mem_cons_of_mem _ hb) rfl rfl
  · cases e
    obtain ⟨v, exs, hv1⟩ := hv.inv1; clear hv; subst exs; have hv := hv1; clear hv1
    simp only [Val] at hv
    obtain ⟨a, vs, e1, h1, h2⟩ := hv
    subst e1
    exact new _ a vs fp h1.sq h2 (fun b hb => hb) rfl rfl
  · cases e
    obtain ⟨v, exs, hv1⟩ := hv.inv1; clear hv; subst exs; have hv := hv1; clear hv1
    simp only [Val] at hv
    obtain ⟨a, vs, e1, h1, h2⟩ := hv
    subst e1
    exact call_tuple_of pins s σ H _ us Q I r ⟨a, vs, rfl, .inr ⟨.inl (.inl h1), q _ H fp (Sm.refl H) (val_tup h1 h2) (.old (fun b hb => .inl hb) fun hi => VAll.imm _ h2 hi)⟩⟩
  · cases e
end
/-! ### isinstance -/
def tyName : D → Option String
  | .non => some "NoneType"
  | .bl _ => some "bool"
  | .int _ => some "int"
  | .str _ => some "str"
  | .tup _ => some "tuple"
  | .kt _ => some "tuple"
  | .lst _ => some "list"
  | .fz _ => some "list"
  | .dk _ _ => some "dict"
  | _ => none
def subTy (a n : String) : Option Bool :=
  if (n == "int" || n == "bool" || n == "str" || n == "tuple" || n == "list" || n == "dict") = true then some (a == n || (a == "bool" && n == "int")) else none
def isiB (d : D) (n : String) : Option Bool := (tyName d).bind fun a => subTy a n
def isiF : List D → Option D
  | [d, .ty n] => (isiB d n).map .bl
  | _ => none
theorem subTy_kit {a n : String} {b : Bool} (ha : a ∈ ["NoneType", "bool", "int", "str", "tuple", "list", "dict"]) (h : subTy a n = some b) : kitB a n = some b := by
  unfold subTy at h
  split at h
  · rename_i hn
    simp only [Bool.or_eq_true, beq_iff_eq] at hn
    cases h
    have hn' : n ∈ ["int", "bool", "str", "tuple", "list", "dict"] := by rcases hn with ((((h|h)|h)|h)|h)|h <;> simp [h]
    have all : ∀ a ∈ ["NoneType", "bool", "int", "str", "tuple", "list", "dict"], ∀ n ∈ ["int", "bool", "str", "tuple", "list", "dict"], kitB a n = some (a == n || (a == "bool" && n == "int")) := by decide +kernel
    exact all a ha n hn'
  · cases h
section
variable {X : Cx}
theorem cr_isi : CallR X (.builtin "isinstance") (rCD X.K X.mg isiF) := by
  intro pins s σ H xs us Q I r ⟨ds, fp, hv, d, e, q⟩
  unfold isiF at e
  split at e
  · rename_i d0 n
    simp only [Option.map_eq_some_iff, isiB, Option.bind_eq_some_iff] at e
    obtain ⟨b, ⟨a, e1, e2⟩, rfl⟩ := e
    obtain ⟨v, v2, f, f2, rfl, ef, h1, h2⟩ := hv.inv2
    simp only [Val] at h2
    have ha : a ∈ ["NoneType", "bool", "int", "str", "tuple", "list", "dict"] := by cases d0 <;> simp [tyName] at e1 <;> subst e1 <;> simp
    have ty : TyX X.K H v (.type a) := by
      cases d0 <;> simp only [tyName, Option.some.injEq, reduceCtorEq] at e1 <;> subst e1 <;> simp only [Val] at h1
      · rw [h1.1]; exact .base .non
      · rw [h1.1]; exact .base (.bl _)
      · rw [h1.1]; exact .base (.int _)
      · rw [h1.1]; exact .base (.str _)
      · obtain ⟨c, vs, q1, q2, q3⟩ := h1; rw [q1]; exact .base (.tup q2)
      · obtain ⟨c, vs, f, q1, q2, q3, q4⟩ := h1; rw [q1]; exact .base (.lst q3)
      · obtain ⟨c, vs, q1, q2, q3⟩ := h1
        rw [q1]
        rcases q2 with ⟨o, q2⟩ | ⟨o, its, n, q4, q5, _⟩
        · exact .base (.frz q2)
        · exact .kList q4 q5
      · obtain ⟨c, vs, q1, ⟨o, its, n, q2, q3, q4⟩, q5⟩ := h1; rw [q1]; exact .kTuple q2 q3
      · obtain ⟨c, kvs, f, q1, q2, q3, q4⟩ := h1
        rw [q1]
        rcases q3 with q3 | ⟨o, q3⟩
        · exact .base (.dK q3)
        · exact .fDict q3
    exact call_isi pins s σ H _ us Q I r ⟨v, .ty n, .type a, .type n, b, by rw [h2.1], .ty n, ty, kit_ty (subTy_kit ha e2), q _ H [] (Sm.refl H) val_bl .nil⟩
  · cases e
end
end DL
set_option Elab.async false
set_option linter.all false
set_option maxRecDepth 100000
set_option maxHeartbeats 2000000
namespace DL
open PySem PySem.Spec PyProof.Rows L2

/-! ### what a statement does -/
inductive Fl where
  | nx (e : En) | rt (d : D) | bk (e : En) | ct (e : En) | ex (c : Str) (e : En) | no
section
variable (K : PySem.W.Frag) (mg : Str → Option Value)
/-- Z: what is not to be changed -/
structure ER (Z : Hp) (env : En) (σ : L2.St) (H : Hp) (fps : Nat → List Addr) : Prop where
  len : env.length = σ.length
  val : ∀ i d, look env i = some d → ∃ v, σ[i]? = some (some v) ∧ Val K mg H d v (fps i)
  own : ∀ i d, env[i]? = some (.ow d) → (fps i).Nodup ∧ (∀ a ∈ fps i, Z a = none ∧ Mut (H a)) ∧ ∀ j d', j ≠ i → look env j = some d' → ∀ a ∈ fps i, a ∉ fps j
  keep : Sm Z H
def EO (Z : Hp) (env : En) (σ : L2.St) (H : Hp) : Prop := ∃ fps, ER K mg Z env σ H fps
def Go (W : WX) (Z : Hp) (D : Ends) (r : Fl) : Prop := match r with
  | .nx e => ∀ σ' H', EO K mg Z e σ' H' → D.nx σ' H'
  | .rt d => ∀ v H' fp, Sm Z H' → Val K mg H' d v fp → fp.Nodup → (∀ a ∈ fp, Z a = none ∧ Mut (H' a)) → D.rt v H'
  | .bk e => ∀ σ' H', EO K mg Z e σ' H' → D.bk σ' H'
  | .ct e => ∀ σ' H', EO K mg Z e σ' H' → D.ct σ' H'
  | .ex c e => ∀ C σ' H', mg c = some (.ref C) → EO K mg Z e σ' H' → W (.ref C) none σ' H'
  | .no => False
def tS (W : WX) (F : En → Fl) : TS := fun D σ H => ∃ Z env, EO K mg Z env σ H ∧ Go K mg W Z D (F env)
end
abbrev DS (X : Cx) (W : WX) (st : Stmt) (F : En → Fl) : Prop := PS X st (tS X.K X.mg W F)
abbrev DSs (X : Cx) (W : WX) (st : List Stmt) (F : En → Fl) : Prop := PSs X st (tS X.K X.mg W F)
theorem ps_weak {X : Cx} {e : Stmt} {t t' : TS} (h : PS X e t) (w : ∀ D σ H, t' D σ H → t D σ H) : PS X e t' := ⟨fun pins s σ H D I q => h.run pins s σ H D I (w D σ H q)⟩
theorem pss_weak {X : Cx} {e : List Stmt} {t t' : TS} (h : PSs X e t) (w : ∀ D σ H, t' D σ H → t D σ H) : PSs X e t' := ⟨fun pins s σ H D I q => h.run pins s σ H D I (w D σ H q)⟩

theorem look_ow {env : En} {i : Nat} {d : D} (h : env[i]? = some (.ow d)) : look env i = some d := by simp [look, h]
theorem look_sh {env : En} {i : Nat} {d : D} (h : env[i]? = some (.sh d)) : look env i = some d := by simp [look, h]
theorem look_set {env : En} {i j : Nat} {s : Sl} (hi : i < env.length) : look (env.set i s) j = if j = i then s.val else look env j := by
  unfold look
  by_cases e : j = i
  · subst e; rw [List.getElem?_set_self hi]; simp
  · rw [List.getElem?_set_ne (Ne.symm e), if_neg e]
theorem look_lt {env : En} {i : Nat} {d : D} (h : look env i = some d) : i < env.length := by
  unfold look at h
  cases q : env[i]? with
  | none => rw [q] at h; cases h
  | some s => exact (List.getElem?_eq_some_iff.mp q).1
section
variable {K : PySem.W.Frag} {mg : Str → Option Value} {Z H H' : Hp} {env : En} {σ : L2.St} {fps : Nat → List Addr} {W : WX} {D' : Ends}
theorem ER.sm (E : ER K mg Z env σ H fps) (e : Sm H H') : ER K mg Z env σ H' fps where
  len := E.len
  val := fun i d h => by
    obtain ⟨v, h1, h2⟩ := E.val i d h
    exact ⟨v, h1, h2.sm e⟩
  own := fun i d h => by
    obtain ⟨h1, h2, h3⟩ := E.own i d h
    exact ⟨h1, fun a ha => ⟨(h2 a ha).1, mut_sm e (h2 a ha).2⟩, h3⟩
  keep := E.keep.trans e
theorem EO.sm (E : EO K mg Z env σ H) (e : Sm H H') : EO K mg Z env σ H' := let ⟨f, h⟩ := E; ⟨f, h.sm e⟩
def ofSlots (env : En) (fps : Nat → List Addr) (a : Addr) : Prop := ∃ i d, look env i = some d ∧ a ∈ fps i
theorem ER.penv (E : ER K mg Z env σ H fps) : PEnv K mg (ofSlots env fps) env σ H := ⟨E.len, fun i d h => by
  obtain ⟨v, h1, h2⟩ := E.val i d h
  exact ⟨v, _, h1, h2, fun a ha => ⟨i, d, h, ha⟩⟩⟩
/-- a new value comes to slot i -/
theorem ER.put (E : ER K mg Z env σ H fps) {i : Nat} {d : D} {v : V} {fp : List Addr} (hi : i < env.length) (h : Val K mg H d v fp) (n : fp.Nodup) (f : ∀ a ∈ fp, Z a = none ∧ Mut (H a)) (ap : ∀ j d', j ≠ i → look env j = some d' → ∀ a ∈ fp, a ∉ fps j) :
    ER K mg Z (env.set i (.ow d)) (σ.set i (some v)) H (fun j => if j = i then fp else fps j) where
  len := by simp [E.len]
  val := fun j e h' => by
    rw [look_set hi] at h'
    by_cases c : j = i
    · subst c
      rw [if_pos rfl] at h'
      cases h'
      exact ⟨v, List.getElem?_set_self (by rw [← E.len]; exact hi), by simpa using h⟩
    · rw [if_neg c] at h'
      obtain ⟨u, h1, h2⟩ := E.val j e h'
      exact ⟨u, by rw [List.getElem?_set_ne (Ne.symm c)]; exact h1, by simpa [c] using h2⟩
  own := fun j e h' => by
    by_cases c : j = i
    · subst c
      simp only [if_true]
      refine ⟨n, f, fun k d' hk hl a ha => ?_⟩
      rw [look_set hi, if_neg hk] at hl
      rw [if_neg hk]
      exact ap k d' hk hl a ha
    · rw [List.getElem?_set_ne (Ne.symm c)] at h'
      obtain ⟨h1, h2, h3⟩ := E.own j e h'
      rw [if_neg c]
      refine ⟨h1, h2, fun k d' hk hl a ha => ?_⟩
      by_cases q : k = i
      · subst q
        simp only [if_true]
        exact fun z => ap j e c (look_ow h') a z ha
      · rw [look_set hi, if_neg q] at hl
        rw [if_neg q]
        exact h3 k d' hk hl a ha
  keep := E.keep
/-- a value that is shared -/
theorem ER.share (E : ER K mg Z env σ H fps) {i : Nat} {d : D} {v : V} {fp : List Addr} (hi : i < env.length) (h : Val K mg H d v fp) (ap : ∀ j d', j ≠ i → env[j]? = some (.ow d') → ∀ a ∈ fps j, a ∉ fp) :
    ER K mg Z (env.set i (.sh d)) (σ.set i (some v)) H (fun j => if j = i then fp else fps j) where
  len := by simp [E.len]
  val := fun j e h' => by
    rw [look_set hi] at h'
    by_cases c : j = i
    · subst c
      rw [if_pos rfl] at h'
      cases h'
      exact ⟨v, List.getElem?_set_self (by rw [← E.len]; exact hi), by simpa using h⟩
    · rw [if_neg c] at h'
      obtain ⟨u, h1, h2⟩ := E.val j e h'
      exact ⟨u, by rw [List.getElem?_set_ne (Ne.symm c)]; exact h1, by simpa [c] using h2⟩
  own := fun j e h' => by
    by_cases c : j = i
    · subst c
      rw [List.getElem?_set_self hi] at h'
      cases h'
    · rw [List.getElem?_set_ne (Ne.symm c)] at h'
      obtain ⟨h1, h2, h3⟩ := E.own j e h'
      rw [if_neg c]
      refine ⟨h1, h2, fun k d' hk hl a ha => ?_⟩
      by_cases q : k = i
      · subst q
        simp only [if_true]
        exact ap j e c h' a ha
      · rw [look_set hi, if_neg q] at hl
        rw [if_neg q]
        exact h3 k d' hk hl a ha
  keep := E.keep
/-- a slot's own value is its own no longer -/
def freeze (i : Nat) (env : En) : En := match env[i]? with
  | some (.ow d) => env.set i (.sh d)
  | _ => env
theorem look_freeze {env : En} {i j : Nat} : look (freeze i env) j = look env j := by
  unfold freeze
  split
  · rename_i d h
    have hi := (List.getElem?_eq_some_iff.mp h).1
    rw [look_set hi]
    split
    · rename_i c; subst c; rw [look_ow h]; rfl
    · rfl
  · rfl
theorem ow_freeze {env : En} {i j : Nat} {d : D} (h : (freeze i env)[j]? = some (.ow d)) : env[j]? = some (.ow d) ∧ j ≠ i := by
  unfold freeze at h
  split at h
  · rename_i d' h'
    have hi := (List.getElem?_eq_some_iff.mp h').1
    by_cases c : j = i
    · subst c; rw [List.getElem?_set_self hi] at h; cases h
    · rw [List.getElem?_set_ne (Ne.symm c)] at h; exact ⟨h, c⟩
  · rename_i h'
    exact ⟨h, fun c => by subst c; exact h' d h⟩
theorem freeze_length {env : En} {i : Nat} : (freeze i env).length = env.length := by
  unfold freeze; split <;> simp
theorem ER.freeze (E : ER K mg Z env σ H fps) (i : Nat) : ER K mg Z (freeze i env) σ H fps where
  len := by rw [freeze_length]; exact E.len
  val := fun j d h => by rw [look_freeze] at h; exact E.val j d h
  own := fun j d h => by
    obtain ⟨h1, _⟩ := ow_freeze h
    obtain ⟨q1, q2, q3⟩ := E.own j d h1
    exact ⟨q1, q2, fun k d' hk hl => by rw [look_freeze] at hl; exact q3 k d' hk hl⟩
  keep := E.keep

/-! ### expressions within statements -/
/-- what an expression gives, taken on -/
def onE {a : Type} (r : R a) (env : En) (k : a → Fl) : Fl := match r with
  | .ok x => k x
  | .ex c => .ex c env
  | .no => .no
theorem Go.out {a : Type} {r : R a} {k : a → Fl} (E : EO K mg Z env σ H) (g : Go K mg W Z D' (onE r env k)) : Out mg W σ H r fun x => Go K mg W Z D' (k x) := by
  cases r with
  | ok x => exact g
  | ex c => exact fun C H' m e => g C σ H' m (E.sm e)
  | no => exact g
end

section
variable {X : Cx} {W : WX} {pos : Pos} {st : Stmt} {rest : List Stmt} {F G : En → Fl}
def sNil (env : En) : Fl := .nx env
def sSeq (F G : En → Fl) (env : En) : Fl := match F env with
  | .nx e => G e
  | r => r
theorem dss_nil : DSs X W [] sNil := pss_weak pss_nil fun D σ H ⟨Z, env, E, g⟩ => g σ H E
theorem dss_cons (h : DS X W st F) (t : DSs X W rest G) : DSs X W (st :: rest) (sSeq F G) := pss_weak (pss_cons h t) fun D σ H ⟨Z, env, E, g⟩ => by
  refine ⟨Z, env, E, ?_⟩
  unfold sSeq at g
  cases q : F env with
  | nx e => rw [q] at g; exact fun σ' H' E' => ⟨Z, e, E', g⟩
  | rt d => rw [q] at g; exact g
  | bk e => rw [q] at g; exact g
  | ct e => rw [q] at g; exact g
  | ex c e => rw [q] at g; exact g
  | no => rw [q] at g; exact g
theorem dss_one (h : DS X W st F) : DSs X W [st] F := pss_one h
def sBreak (env : En) : Fl := .bk env
def sCont (env : En) : Fl := .ct env
theorem ds_pass : DS X W (.Pass pos) sNil := ps_weak ps_pass fun D σ H ⟨Z, env, E, g⟩ => g σ H E
theorem ds_break : DS X W (.Break pos) sBreak := ps_weak ps_break fun D σ H ⟨Z, env, E, g⟩ => g σ H E
theorem ds_continue : DS X W (.Continue pos) sCont := ps_weak ps_continue fun D σ H ⟨Z, env, E, g⟩ => g σ H E
/-- an expression's value is dropped -/
def sDrop (f : En → R D) (env : En) : Fl := onE (f env) env fun _ => .nx env
theorem ds_expr {e : Expr} {f : En → R D} (h : DE X W e f) (hs : swapsWith e none pos.line X.env = pure false := by rfl) : DS X W (.Expr e pos) (sDrop f) := ps_weak (ps_expr h hs) fun D σ H ⟨Z, env, E, g⟩ => by
  have E' := E
  obtain ⟨fps, E⟩ := E
  exact ⟨_, env, E.penv, (Go.out E' g).imp fun d g v H' fp e hv hp => g σ H' (E'.sm e)⟩
/-- x = e, e's value new -/
def sSetF (i : Nat) (f : En → R D) (env : En) : Fl := onE (f env) env fun d => if i < env.length then .nx (env.set i (.ow d)) else .no
theorem ds_setF {i : Nat} {x : Str} {e : Expr} {pos' : Pos} {f : En → R D} (h : DF X W e f) (hN : X.N.Nodup) (hi : X.N[i]? = some x := by rfl) (hx : Loc X.env.scope x := by first | exact Or.inl rfl | exact Or.inr rfl) (hs : swapsWith e (some (.Name x pos')) pos.line X.env = pure false := by rfl)
    (hf : X.fn x = true ∨ X.env.scope.names.lookup x = some .local := by first | exact .inl rfl | exact .inr rfl | assumption) : DS X W (.Assign [.Name x pos'] e pos) (sSetF i f) := ps_weak (ps_set hN hi hx h hs hf) fun D σ H ⟨Z, env, E, g⟩ => by
  have E' := E
  obtain ⟨fps, E⟩ := E
  refine ⟨_, env, E.penv, (Go.out E' g).imp fun d g v H' fp e hv hn hp => ?_⟩
  split at g
  · rename_i hl
    have E2 := E.sm e
    refine g _ _ ⟨_, E2.put hl hv hn (fun a ha => ⟨E.keep.back (hp a ha).1, (hp a ha).2⟩) fun j d' _ hl' a ha z => ?_⟩
    obtain ⟨u, _, hu⟩ := E.val j d' hl'
    exact hu.gone z (hp a ha).1
  · exact g.elim
/-- x = e, a value that can't be changed -/
def sSetI (i : Nat) (f : En → R D) (env : En) : Fl := onE (f env) env fun d => if imm d = true ∧ i < env.length then .nx (env.set i (.ow d)) else .no
theorem ds_setI {i : Nat} {x : Str} {e : Expr} {pos' : Pos} {f : En → R D} (h : DE X W e f) (hN : X.N.Nodup) (hi : X.N[i]? = some x := by rfl) (hx : Loc X.env.scope x := by first | exact Or.inl rfl | exact Or.inr rfl) (hs : swapsWith e (some (.Name x pos')) pos.line X.env = pure false := by rfl)
    (hf : X.fn x = true ∨ X.env.scope.names.lookup x = some .local := by first | exact .inl rfl | exact .inr rfl | assumption) : DS X W (.Assign [.Name x pos'] e pos) (sSetI i f) := ps_weak (ps_set hN hi hx h hs hf) fun D σ H ⟨Z, env, E, g⟩ => by
  have E' := E
  obtain ⟨fps, E⟩ := E
  refine ⟨_, env, E.penv, (Go.out E' g).imp fun d g v H' fp e hv hp => ?_⟩
  split at g
  · rename_i hl
    have hz := Val.imm d hv hl.1
    subst hz
    exact g _ _ ⟨_, (E.sm e).put hl.2 hv List.nodup_nil nf fun _ _ _ _ => nf⟩
  · exact g.elim
/-- x = y: both hold it -/
def sSetN (i j : Nat) (env : En) : Fl := match look env j with
  | some d => if i < env.length ∧ i ≠ j then .nx ((freeze j env).set i (.sh d)) else .no
  | none => .no
theorem ds_setN {i j : Nat} {x y : Str} {py pos' : Pos} (h : PE X (.Name y py) (tVar j)) (hN : X.N.Nodup) (hi : X.N[i]? = some x := by rfl) (hx : Loc X.env.scope x := by first | exact Or.inl rfl | exact Or.inr rfl) (hs : swapsWith (.Name y py) (some (.Name x pos')) pos.line X.env = pure false := by rfl)
    (hf : X.fn x = true ∨ X.env.scope.names.lookup x = some .local := by first | exact .inl rfl | exact .inr rfl | assumption) : DS X W (.Assign [.Name x pos'] (.Name y py) pos) (sSetN i j) := ps_weak (ps_set hN hi hx h hs hf) fun D σ H ⟨Z, env, E, g⟩ => by
  obtain ⟨fps, E⟩ := E
  unfold sSetN at g
  split at g
  · rename_i d hd
    split at g
    · rename_i hl
      obtain ⟨v, h1, h2⟩ := E.val j d hd
      refine ⟨v, h1, g _ _ ⟨_, (E.freeze j).share (by rw [freeze_length]; exact hl.1) h2 fun k d' hk ho a ha => ?_⟩⟩
      obtain ⟨q1, q2⟩ := ow_freeze ho
      exact (E.own k d' q1).2.2 j d (Ne.symm q2) hd a ha
    · exact g.elim
  · exact g.elim
/-- the slots that are no one's own -/
def hideS : Sl → Sl
  | .ow _ => .un
  | s => s
theorem look_hide {env : En} {i : Nat} {d : D} (h : look (env.map hideS) i = some d) : env[i]? = some (.sh d) := by
  unfold look at h
  rw [List.getElem?_map] at h
  cases q : env[i]? with
  | none => rw [q] at h; cases h
  | some s =>
    rw [q] at h
    cases s <;> simp [hideS] at h
    subst h; rfl
theorem ER.hide {K : PySem.W.Frag} {mg : Str → Option Value} {Z H : Hp} {env : En} {σ : L2.St} {fps : Nat → List Addr} (E : ER K mg Z env σ H fps) : PEnv K mg (fun a => ∃ i d, env[i]? = some (.sh d) ∧ a ∈ fps i) (env.map hideS) σ H :=
  ⟨by simp [E.len], fun i d h => by
    have q := look_hide h
    obtain ⟨v, h1, h2⟩ := E.val i d (look_sh q)
    exact ⟨v, _, h1, h2, fun a ha => ⟨i, d, q, ha⟩⟩⟩
/-- what is of shared slots or new lies apart from the own ones -/
theorem ER.apart {K : PySem.W.Frag} {mg : Str → Option Value} {Z H : Hp} {env : En} {σ : L2.St} {fps : Nat → List Addr} (E : ER K mg Z env σ H fps) {fp : List Addr} (h : ∀ a ∈ fp, (∃ i d, env[i]? = some (.sh d) ∧ a ∈ fps i) ∨ H a = none) {j : Nat} {d' : D} (ho : env[j]? = some (.ow d')) :
    ∀ a ∈ fps j, a ∉ fp := fun a ha z => by
  rcases h a z with ⟨i, d, q1, q2⟩ | q
  · have c : i ≠ j := fun c => by subst c; rw [q1] at ho; cases ho
    exact (E.own j d' ho).2.2 i d c (look_sh q1) a ha q2
  · obtain ⟨u, _, hu⟩ := E.val j d' (look_ow ho)
    exact hu.gone ha q
/-- x = e, e of shared values alone -/
def sSetS (i : Nat) (f : En → R D) (env : En) : Fl := onE (f (env.map hideS)) env fun d => if i < env.length then .nx (env.set i (.sh d)) else .no
theorem ds_setS {i : Nat} {x : Str} {e : Expr} {pos' : Pos} {f : En → R D} (h : DE X W e f) (hN : X.N.Nodup) (hi : X.N[i]? = some x := by rfl) (hx : Loc X.env.scope x := by first | exact Or.inl rfl | exact Or.inr rfl) (hs : swapsWith e (some (.Name x pos')) pos.line X.env = pure false := by rfl)
    (hf : X.fn x = true ∨ X.env.scope.names.lookup x = some .local := by first | exact .inl rfl | exact .inr rfl | assumption) : DS X W (.Assign [.Name x pos'] e pos) (sSetS i f) := ps_weak (ps_set hN hi hx h hs hf) fun D σ H ⟨Z, env, E, g⟩ => by
  have E' := E
  obtain ⟨fps, E⟩ := E
  refine ⟨_, _, E.hide, (Go.out E' g).imp fun d g v H' fp e hv hp => ?_⟩
  split at g
  · rename_i hl
    exact g _ _ ⟨_, (E.sm e).share hl hv fun j d' _ ho => E.apart hp ho⟩
  · exact g.elim
/-! ### return -/
def sRet (f : En → R D) (env : En) : Fl := onE (f env) env fun d => .rt d
theorem ds_ret {e : Expr} {f : En → R D} (h : DF X W e f) : DS X W (.Return (some e) pos) (sRet f) := ps_weak (ps_ret h) fun D σ H ⟨Z, env, E, g⟩ => by
  have E' := E
  obtain ⟨fps, E⟩ := E
  exact ⟨_, env, E.penv, (Go.out E' g).imp fun d g v H' fp e hv hn hp => g v H' fp (E.keep.trans e) hv hn fun a ha => ⟨E.keep.back (hp a ha).1, (hp a ha).2⟩⟩
def sRetN (_ : En) : Fl := .rt .non
theorem ds_retN : DS X W (.Return none pos) sRetN := ps_weak ps_retN fun D σ H ⟨Z, env, ⟨fps, E⟩, g⟩ => g .non H [] E.keep val_non List.nodup_nil nf
/-- a slot's own value is handed back -/
def sRetV (i : Nat) (env : En) : Fl := match env[i]? with
  | some (.ow d) => .rt d
  | some (.sh d) => if imm d = true then .rt d else .no
  | _ => .no
theorem ds_retV {i : Nat} {x : Str} {px : Pos} (h : PE X (.Name x px) (tVar i)) : DS X W (.Return (some (.Name x px)) pos) (sRetV i) := ps_weak (ps_ret h) fun D σ H ⟨Z, env, ⟨fps, E⟩, g⟩ => by
  unfold sRetV at g
  split at g
  · rename_i d hd
    obtain ⟨v, h1, h2⟩ := E.val i d (look_ow hd)
    obtain ⟨q1, q2, _⟩ := E.own i d hd
    exact ⟨v, h1, g v H (fps i) E.keep h2 q1 q2⟩
  · rename_i d hd
    split at g
    · rename_i hi
      obtain ⟨v, h1, h2⟩ := E.val i d (look_sh hd)
      have hz := Val.imm d h2 hi
      rw [hz] at h2
      exact ⟨v, h1, g v H [] E.keep h2 List.nodup_nil nf⟩
    · exact g.elim
  · exact g.elim
/-! ### if -/
def sIf (t : En → R Bool) (F G : En → Fl) (env : En) : Fl := onE (t env) env fun b => if b = true then F env else G env
theorem ds_if {c : Expr} {a b : List Stmt} {t : En → R Bool} (hc : DT X W c t) (ha : DSs X W a F) (hb : DSs X W b G) : DS X W (.If c a b pos) (sIf t F G) := ps_weak (ps_if hc ha hb) fun D σ H ⟨Z, env, E, g⟩ => by
  have E' := E
  obtain ⟨fps, E⟩ := E
  refine ⟨_, env, E.penv, (Go.out E' g).imp fun b g H' e => ?_⟩
  cases b with
  | true => simp only [if_true] at g ⊢; exact ⟨Z, env, E'.sm e, g⟩
  | false => simp only [Bool.false_eq_true, if_false] at g ⊢; exact ⟨Z, env, E'.sm e, g⟩
/-! ### raise -/
def sRaise (c : Str) (env : En) : Fl := .ex c env
theorem ds_raise {x m : Str} {C : Addr} {j : Nat} {p p2 pos2 : Pos} (tk : Takes X W) (q : PySem.W.excIn X.K C [.type "ValueError", .type "Exception", .type "BaseException", .type "object"] "ValueError.__new__" = true) (gC : X.mg x = some (.ref C)) (kC : PySem.W.keepIn X.K (.ref C) = true)
    (r : Raises X (.ref C)) (hc : X.calm = true := by rfl) (hg : Gl X x := by rfl) (hdb : (x == ("__debug__" : Str)) = false := by decide) : DS X W (.Raise (some (.Call (.Name x p) [.Constant (.str m) j p2] [] pos)) none pos2) (sRaise x) :=
  ps_weak (ps_raise hc tk (pmk_own PySem.F.excBase_ValueError q gC kC r hg hdb)) fun D σ H ⟨Z, env, E, g⟩ => g C σ H gC E
end
end DL
set_option Elab.async false
set_option linter.all false
set_option maxRecDepth 100000
set_option maxHeartbeats 2000000
namespace DL
open PySem PySem.Spec PyProof.Rows L2

section
variable {K : PySem.W.Frag} {mg : Str → Option Value} {Z H H' : Hp} {env : En} {σ : L2.St} {fps : Nat → List Addr} {W : WX} {D' : Ends}
theorem mut_ok {H : Hp} {a : Addr} (m : Mut (H a)) : (∀ xs, H a ≠ some (.tup xs)) ∧ ∀ o xs, H a ≠ some (.frz o xs) :=
  ⟨fun xs e => by rw [e] at m; exact m, fun o xs e => by rw [e] at m; exact m⟩
/-- slot i's own object at a is written -/
theorem ER.mut (E : ER K mg Z env σ H fps) {i : Nat} {d d' : D} {a : Addr} {o : HO} {v : V} {fp' : List Addr} (hi : env[i]? = some (.ow d)) (ha : a ∈ fps i) (mo : Mut (some o)) (hv : σ[i]? = some (some v)) (h : Val K mg (upd H a o) d' v fp') (n : fp'.Nodup)
    (hf : ∀ b ∈ fp', b ∈ fps i ∨ (Z b = none ∧ Mut (H b) ∧ ∀ j d'', look env j = some d'' → b ∉ fps j)) : ER K mg Z (env.set i (.ow d')) σ (upd H a o) (fun j => if j = i then fp' else fps j) := by
  obtain ⟨o1, o2, o3⟩ := E.own i d hi
  have hil : i < env.length := (List.getElem?_eq_some_iff.mp hi).1
  obtain ⟨m1, m2⟩ := mut_ok (o2 a ha).2
  have mutu : ∀ b, Mut (H b) → Mut (upd H a o b) := fun b m => by
    by_cases c : b = a
    · subst c; rw [upd_same]; exact mo
    · rw [upd_ne c]; exact m
  refine ⟨by simp [E.len], fun j e h' => ?_, fun j e h' => ?_, fun b u e => ?_⟩
  · rw [look_set hil] at h'
    by_cases c : j = i
    · subst c
      rw [if_pos rfl] at h'
      cases h'
      exact ⟨v, hv, by simpa using h⟩
    · rw [if_neg c] at h'
      obtain ⟨u, h1, h2⟩ := E.val j e h'
      refine ⟨u, h1, ?_⟩
      simp only [c, if_false]
      exact Val.kp e h2 (Kp.upd (o3 j e c h' a ha) m1 m2)
  · by_cases c : j = i
    · subst c
      simp only [if_true]
      refine ⟨n, fun b hb => ?_, fun k d'' hk hl b hb => ?_⟩
      · rcases hf b hb with z | ⟨z1, z2, z3⟩
        · exact ⟨(o2 b z).1, mutu b (o2 b z).2⟩
        · exact ⟨z1, mutu b z2⟩
      · rw [look_set hil, if_neg hk] at hl
        rw [if_neg hk]
        rcases hf b hb with z | ⟨z1, z2, z3⟩
        · exact o3 k d'' hk hl b z
        · exact z3 k d'' hl
    · rw [List.getElem?_set_ne (Ne.symm c)] at h'
      obtain ⟨q1, q2, q3⟩ := E.own j e h'
      rw [if_neg c]
      refine ⟨q1, fun b hb => ⟨(q2 b hb).1, mutu b (q2 b hb).2⟩, fun k d'' hk hl b hb => ?_⟩
      by_cases q : k = i
      · subst q
        simp only [if_true]
        intro z
        rcases hf b z with z | ⟨z1, z2, z3⟩
        · exact o3 j e c (look_ow h') b z hb
        · exact z3 j e (look_ow h') hb
      · rw [look_set hil, if_neg q] at hl
        rw [if_neg q]
        exact q3 k d'' hk hl b hb
  · have c : b ≠ a := fun c => by subst c; rw [(o2 b ha).1] at e; cases e
    rw [upd_ne c]
    exact E.keep b u e
/-- what is new is in no slot -/
theorem ER.new (E : ER K mg Z env σ H fps) {b : Addr} (hb : H b = none) : Z b = none ∧ ∀ j d'', look env j = some d'' → b ∉ fps j :=
  ⟨E.keep.back hb, fun j d'' hl z => by
    obtain ⟨u, _, hu⟩ := E.val j d'' hl
    exact hu.gone z hb⟩
/-- a list that is a slot's own -/
theorem ER.list (E : ER K mg Z env σ H fps) {i : Nat} {xs : List D} (hi : env[i]? = some (.ow (.lst xs))) : ∃ a vs f, σ[i]? = some (some (.ref a)) ∧ fps i = a :: f ∧ H a = some (.lst vs) ∧ VAll K mg H xs vs f ∧ (a :: f).Nodup := by
  obtain ⟨v, h1, h2⟩ := E.val i _ (look_ow hi)
  simp only [Val] at h2
  obtain ⟨a, vs, f, e1, e2, e3, e4⟩ := h2
  subst e1
  exact ⟨a, vs, f, h1, e2, e3, e4, by rw [← e2]; exact (E.own i _ hi).1⟩
end

section
variable {X : Cx} {W : WX} {pos cpos apos px : Pos} {x : Str}
/-! ### xs.append(e) -/
def appL (i : Nat) (xs : List D) (d : D) (env : En) : Fl := if xs.length < sizeLine then .nx (env.set i (.ow (.lst (xs ++ [d])))) else .no
def onList (i : Nat) (env : En) (k : List D → Fl) : Fl := match env[i]? with
  | some (.ow (.lst xs)) => k xs
  | _ => .no
theorem Go.list {K : PySem.W.Frag} {mg : Str → Option Value} {Z : Hp} {D' : Ends} {env : En} {i : Nat} {k : List D → Fl} (g : Go K mg W Z D' (onList i env k)) : ∃ xs, env[i]? = some (.ow (.lst xs)) ∧ Go K mg W Z D' (k xs) := by
  unfold onList at g
  split at g
  · rename_i xs h; exact ⟨xs, h, g⟩
  · exact g.elim
def sAppF (i : Nat) (f : En → R D) (env : En) : Fl := onList i env fun xs => onE (f env) env fun d => appL i xs d env
def sAppI (i : Nat) (f : En → R D) (env : En) : Fl := onList i env fun xs => onE (f env) env fun d => if imm d = true then appL i xs d env else .no
theorem st_app {K : PySem.W.Frag} {mg : Str → Option Value} {Z H H1 : Hp} {env : En} {σ : L2.St} {fps : Nat → List Addr} {D' : Ends} {i : Nat} {d : D} {a : Addr} {vs : List V} {f fp : List Addr} {y : V} {xs : List D} (E : ER K mg Z env σ H fps) (hi : env[i]? = some (.ow (.lst xs)))
    (s1 : σ[i]? = some (some (.ref a))) (ef : fps i = a :: f) (ha : H a = some (.lst vs)) (hvs : VAll K mg H xs vs f) (e : Sm H H1) (hy : Val K mg H1 d y fp) (n : fp.Nodup) (hp : ∀ b ∈ fp, H b = none ∧ Mut (H1 b)) (g : Go K mg W Z D' (appL i xs d env)) :
    rAppend (.ref a) [y] H1 fun _ H2 => D'.nx σ H2 := by
  unfold appL at g
  split at g
  · rename_i hl
    refine ⟨a, vs, y, rfl, rfl, e _ _ ha, by rw [hvs.length]; exact hl, g σ _ ⟨_, (E.sm e).mut (a := a) (fp' := a :: (f ++ fp)) hi (by rw [ef]; exact List.mem_cons_self) trivial s1 ?_ ?_ ?_⟩⟩
    · have n1 := (E.own i _ hi).1
      rw [ef] at n1
      have kp : ∀ {fq}, a ∉ fq → Kp fq H1 (upd H1 a (.lst (vs ++ [y]))) := fun hq => Kp.upd hq (fun xs z => by rw [e _ _ ha] at z; cases z) (fun o xs z => by rw [e _ _ ha] at z; cases z)
      refine val_lst upd_same ((VAll.kp _ (hvs.sm e) (kp (List.nodup_cons.mp n1).1)).append (VAll.one (Val.kp _ hy (kp fun z => ?_))))
      have := (hp a z).1
      rw [ha] at this; cases this
    · have n1 := (E.own i _ hi).1
      rw [ef] at n1
      have df : ∀ b ∈ a :: f, b ∉ fp := fun b hb z => by
        have q := (hp b z).1
        obtain ⟨u, _, hu⟩ := E.val i _ (look_ow hi)
        exact hu.gone (by rw [ef]; exact hb) q
      rw [← List.cons_append]
      exact List.nodup_append.mpr ⟨n1, n, fun b hb c hc z => df b hb (z ▸ hc)⟩
    · intro b hb
      rw [← List.cons_append] at hb
      rcases List.mem_append.mp hb with z | z
      · exact .inl (by rw [ef]; exact z)
      · obtain ⟨q1, q2⟩ := E.new (hp b z).1
        exact .inr ⟨q1, (hp b z).2, q2⟩
  · exact g.elim
theorem ds_appF {i : Nat} {e : Expr} {f : En → R D} (h : DF X W e f) (hx : PE X (.Name x px) (tVar i)) (hbase : attributeBase (.Name x px) "append" X.env (eval (.Name x px) X.env) = eval (.Name x px) X.env := by rfl)
    (hfew : ((backTo cpos (starEach [e] X.env)).all (fun x => !x.1) && (backToKw cpos (keywordEach [] X.env)).all (fun x => x.1.isSome)
      && decide (([e] : List Expr).length + ([] : List Keyword).length + (if ([] : List Keyword).isEmpty then 0 else 1) < 30)) = true := by rfl)
    (hline : (apos.endLine == cpos.line) = true := by rfl) (hs1 : starEach [e] X.env = (false, eval e X.env) :: starEach [] X.env := by rfl) (hplain : (backTo cpos (starEach [] X.env)).any (·.1) = false := by rfl)
    (hs : swapsWith (.Call (.Attribute (.Name x px) "append" apos) [e] [] cpos) none pos.line X.env = pure false := by rfl) : DS X W (.Expr (.Call (.Attribute (.Name x px) "append" apos) [e] [] cpos) pos) (sAppF i f) :=
  ps_weak (ps_expr (pe_bm PySem.F.plainAttrs_list PySem.F.slot_list_append PySem.F.type_list_append mt_append hx (pa_cons h pa_nil hs1) hbase hfew hline hs1 hplain) hs) fun D σ H ⟨Z, env, E, g⟩ => by
  have E' := E
  obtain ⟨fps, E⟩ := E
  obtain ⟨xs, hi, g⟩ := Go.list g
  obtain ⟨a, vs, fl, s1, ef, ha, hvs, nd⟩ := E.list hi
  refine ⟨_, s1, .inl ⟨rfl, vs, .inl (.inl ha)⟩, ?_⟩
  exact ⟨_, env, E.penv, (Go.out E' g).imp fun d g v H' fp e hv hn hp => st_app E hi s1 ef ha hvs e hv hn hp g⟩
theorem ds_appI {i : Nat} {e : Expr} {f : En → R D} (h : DE X W e f) (hx : PE X (.Name x px) (tVar i)) (hbase : attributeBase (.Name x px) "append" X.env (eval (.Name x px) X.env) = eval (.Name x px) X.env := by rfl)
    (hfew : ((backTo cpos (starEach [e] X.env)).all (fun x => !x.1) && (backToKw cpos (keywordEach [] X.env)).all (fun x => x.1.isSome)
      && decide (([e] : List Expr).length + ([] : List Keyword).length + (if ([] : List Keyword).isEmpty then 0 else 1) < 30)) = true := by rfl)
    (hline : (apos.endLine == cpos.line) = true := by rfl) (hs1 : starEach [e] X.env = (false, eval e X.env) :: starEach [] X.env := by rfl) (hplain : (backTo cpos (starEach [] X.env)).any (·.1) = false := by rfl)
    (hs : swapsWith (.Call (.Attribute (.Name x px) "append" apos) [e] [] cpos) none pos.line X.env = pure false := by rfl) : DS X W (.Expr (.Call (.Attribute (.Name x px) "append" apos) [e] [] cpos) pos) (sAppI i f) :=
  ps_weak (ps_expr (pe_bm PySem.F.plainAttrs_list PySem.F.slot_list_append PySem.F.type_list_append mt_append hx (pa_cons h pa_nil hs1) hbase hfew hline hs1 hplain) hs) fun D σ H ⟨Z, env, E, g⟩ => by
  have E' := E
  obtain ⟨fps, E⟩ := E
  obtain ⟨xs, hi, g⟩ := Go.list g
  obtain ⟨a, vs, fl, s1, ef, ha, hvs, nd⟩ := E.list hi
  refine ⟨_, s1, .inl ⟨rfl, vs, .inl (.inl ha)⟩, ?_⟩
  refine ⟨_, env, E.penv, (Go.out E' g).imp fun d g v H' fp e hv hp => ?_⟩
  split at g
  · rename_i hm
    have hz := Val.imm d hv hm
    subst hz
    exact st_app E hi s1 ef ha hvs e hv List.nodup_nil nf g
  · exact g.elim
/-! ### xs.extend(e) -/
def extL (i : Nat) (xs : List D) (d : D) (env : En) : Fl := match d with
  | .lst zs => if xs.length + zs.length ≤ sizeLine then .nx (env.set i (.ow (.lst (xs ++ zs)))) else .no
  | _ => .no
def sExtI (i : Nat) (f : En → R D) (env : En) : Fl := onList i env fun xs => onE (f env) env fun d => if immTop d = true then extL i xs d env else .no
theorem ds_extI {i : Nat} {e : Expr} {f : En → R D} (h : DE X W e f) (hx : PE X (.Name x px) (tVar i)) (hbase : attributeBase (.Name x px) "extend" X.env (eval (.Name x px) X.env) = eval (.Name x px) X.env := by rfl)
    (hfew : ((backTo cpos (starEach [e] X.env)).all (fun x => !x.1) && (backToKw cpos (keywordEach [] X.env)).all (fun x => x.1.isSome)
      && decide (([e] : List Expr).length + ([] : List Keyword).length + (if ([] : List Keyword).isEmpty then 0 else 1) < 30)) = true := by rfl)
    (hline : (apos.endLine == cpos.line) = true := by rfl) (hs1 : starEach [e] X.env = (false, eval e X.env) :: starEach [] X.env := by rfl) (hplain : (backTo cpos (starEach [] X.env)).any (·.1) = false := by rfl)
    (hs : swapsWith (.Call (.Attribute (.Name x px) "extend" apos) [e] [] cpos) none pos.line X.env = pure false := by rfl) : DS X W (.Expr (.Call (.Attribute (.Name x px) "extend" apos) [e] [] cpos) pos) (sExtI i f) :=
  ps_weak (ps_expr (pe_bm PySem.F.plainAttrs_list PySem.F.slot_list_extend PySem.F.type_list_extend mt_extend hx (pa_cons h pa_nil hs1) hbase hfew hline hs1 hplain) hs) fun D σ H ⟨Z, env, E, g⟩ => by
  have E' := E
  obtain ⟨fps, E⟩ := E
  obtain ⟨xs, hi, g⟩ := Go.list g
  obtain ⟨a, vs, fl, s1, ef, ha, hvs, nd⟩ := E.list hi
  refine ⟨_, s1, .inl ⟨rfl, vs, .inl (.inl ha)⟩, ?_⟩
  refine ⟨_, env, E.penv, (Go.out E' g).imp fun d g v H' fp e hv hp => ?_⟩
  split at g
  · rename_i hm
    unfold extL at g
    split at g
    · rename_i zs
      split at g
      · rename_i hl
        simp only [Val] at hv
        obtain ⟨b, us, f2, e1, e2, h1, h2⟩ := hv
        have hz := VAll.imm _ h2 hm
        subst hz
        have n1 := nd
        have kp : ∀ {fq}, a ∉ fq → Kp fq H' (upd H' a (.lst (vs ++ us))) := fun hq => Kp.upd hq (fun xs z => by rw [e _ _ ha] at z; cases z) (fun o xs z => by rw [e _ _ ha] at z; cases z)
        refine ⟨a, b, vs, us, rfl, by rw [e1], e _ _ ha, h1, by rw [hvs.length, h2.length]; exact hl, g σ _ ⟨_, (E.sm e).mut (a := a) (fp' := a :: fl) hi (by rw [ef]; exact List.mem_cons_self) trivial s1 ?_ nd fun b hb => .inl (by rw [ef]; exact hb)⟩⟩
        have q := (VAll.kp _ (hvs.sm e) (kp (List.nodup_cons.mp n1).1)).append (VAll.kp _ h2 (kp (fun z => nomatch z)))
        rw [List.append_nil] at q
        exact val_lst upd_same q
      · exact g.elim
    · exact g.elim
  · exact g.elim
end
end DL
set_option Elab.async false
set_option linter.all false
set_option maxRecDepth 100000
set_option maxHeartbeats 2000000
namespace DL
open PySem PySem.Spec PyProof.Rows L2

/-! ### targets -/
inductive Tg where
  | nm (i : Nat) | tp (ts : List Tg)
section
variable (K : PySem.W.Frag)
mutual
def tgH : Tg → TG
  | .nm i => gName i
  | .tp ts => fun v σ H Q => ∃ a xs, v = .ref a ∧ (SqL K H a xs ∨ SqT K H a xs) ∧ xs.length = ts.length ∧ tgHs ts xs σ H Q
def tgHs : List Tg → TGs
  | [] => gNil
  | t :: ts => gCons (tgH t) (tgHs ts)
end
end
mutual
def put : Tg → D → En → Option En
  | .nm i, d, env => if i < env.length then some (env.set i (.sh d)) else none
  | .tp ts, d, env => match items d with
    | some ds => puts ts ds env
    | none => none
def puts : List Tg → List D → En → Option En
  | [], [], env => some env
  | t :: ts, d :: ds, env => match put t d env with
    | some e => puts ts ds e
    | none => none
  | _, _, _ => none
end
mutual
def slots : Tg → List Nat
  | .nm i => [i]
  | .tp ts => slotsL ts
def slotsL : List Tg → List Nat
  | [] => []
  | t :: ts => slots t ++ slotsL ts
end
abbrev DG (X : Cx) (tg : Expr) (T : Tg) : Prop := PG X tg (tgH X.K T)
abbrev DGs (X : Cx) (tg : List Expr) (T : List Tg) : Prop := PGs X tg (tgHs X.K T)
section
variable {X : Cx} {pos : Pos}
theorem dg_name {i : Nat} {x : Str} (hN : X.N.Nodup) (hi : X.N[i]? = some x := by rfl) (hx : Loc X.env.scope x := by first | exact Or.inl rfl | exact Or.inr rfl) (hf : X.fn x = true ∨ X.env.scope.names.lookup x = some .local := by first | exact .inl rfl | exact .inr rfl | assumption) :
    DG X (.Name x pos) (.nm i) := by
  show PG X (.Name x pos) (tgH X.K (.nm i))
  simp only [tgH]
  exact pg_name hN hi hx hf
theorem dgs_nil : DGs X [] [] := by
  show PGs X [] (tgHs X.K [])
  simp only [tgHs]
  exact pgs_nil
theorem dgs_cons {e : Expr} {es : List Expr} {t : Tg} {ts : List Tg} (h1 : DG X e t) (h2 : DGs X es ts) (hs : (assignEach (e :: es) X.env).map (·.2) = assign e X.env :: (assignEach es X.env).map (·.2) := by rfl) : DGs X (e :: es) (t :: ts) := by
  show PGs X (e :: es) (tgHs X.K (t :: ts))
  simp only [tgHs]
  exact pgs_cons h1 h2 hs
theorem dg_tup {es : List Expr} {k : Nat} {ts : List Tg} (h : DGs X es ts) (hc : X.calm = true := by rfl) (hn : (assignEach es X.env).length = ts.length := by rfl) (hst : (assignEach es X.env).findIdx? (·.1) = none := by rfl) : DG X (.Tuple es k pos) (.tp ts) := by
  show PG X (.Tuple es k pos) (tgH X.K (.tp ts))
  simp only [tgH]
  refine ⟨fun pins s σ H v u Q I r q => ?_⟩
  obtain ⟨a, xs, e, hs, hl, q⟩ := q
  rcases hs with hs | hs
  · exact (pg_lst hc h hn hst).run pins s σ H v u Q I r ⟨a, xs, e, hs, hl, q⟩
  · exact (pg_tup hc h hn hst).run pins s σ H v u Q I r ⟨a, xs, e, hs, hl, q⟩
end
theorem puts_length : ∀ (ts : List Tg) {ds : List D} {env e' : En}, puts ts ds env = some e' → ds.length = ts.length
  | [], [], _, _, _ => rfl
  | [], _ :: _, _, _, h => by simp [puts] at h
  | _ :: _, [], _, _, h => by simp [puts] at h
  | t :: ts, d :: ds, env, e', h => by
    simp only [puts] at h
    split at h
    · simp [puts_length ts h]
    · cases h
section
variable {K : PySem.W.Frag} {mg : Str → Option Value} {Z H : Hp}
mutual
theorem tg_er : ∀ (T : Tg) {d : D} {env e' : En} {σ : L2.St} {fps : Nat → List Addr} {v : V} {fp : List Addr} {Q : L2.St → Hp → Prop}, put T d env = some e' → ER K mg Z env σ H fps → Val K mg H d v fp → (∀ j d', env[j]? = some (.ow d') → ∀ a ∈ fps j, a ∉ fp) →
    (∀ σ' fps', ER K mg Z e' σ' H fps' → (∀ j d', e'[j]? = some (.ow d') → env[j]? = some (.ow d') ∧ fps' j = fps j) → Q σ' H) → tgH K T v σ H Q
  | .nm i, d, env, e', σ, fps, v, fp, Q, hp, E, hv, ap, k => by
    simp only [put] at hp
    split at hp
    · rename_i hi
      cases hp
      simp only [tgH, gName]
      refine k _ _ (E.share hi hv fun j d' _ ho => ap j d' ho) fun j d' ho => ?_
      by_cases c : j = i
      · subst c; rw [List.getElem?_set_self hi] at ho; cases ho
      · rw [List.getElem?_set_ne (Ne.symm c)] at ho
        exact ⟨ho, by simp [c]⟩
    · cases hp
  | .tp ts, d, env, e', σ, fps, v, fp, Q, hp, E, hv, ap, k => by
    simp only [put] at hp
    split at hp
    · rename_i ds hd
      obtain ⟨a, vs, f, ev, hs, hvs, hf⟩ := hv.seq hd
      simp only [tgH]
      refine ⟨a, vs, ev, hs, ?_, tgs_er ts hp E hvs (fun j d' ho b hb z => ap j d' ho b hb (hf b z)) k⟩
      rw [hvs.length]
      exact puts_length ts hp
    · cases hp
theorem tgs_er : ∀ (ts : List Tg) {ds : List D} {env e' : En} {σ : L2.St} {fps : Nat → List Addr} {vs : List V} {fp : List Addr} {Q : L2.St → Hp → Prop}, puts ts ds env = some e' → ER K mg Z env σ H fps → VAll K mg H ds vs fp → (∀ j d', env[j]? = some (.ow d') → ∀ a ∈ fps j, a ∉ fp) →
    (∀ σ' fps', ER K mg Z e' σ' H fps' → (∀ j d', e'[j]? = some (.ow d') → env[j]? = some (.ow d') ∧ fps' j = fps j) → Q σ' H) → tgHs K ts vs σ H Q
  | [], ds, env, e', σ, fps, vs, fp, Q, hp, E, hv, ap, k => by
    cases ds with
    | nil =>
      simp only [puts, Option.some.injEq] at hp
      subst hp
      simp only [VAll] at hv
      simp only [tgHs, gNil]
      exact ⟨hv.1, k _ _ E fun j d' ho => ⟨ho, rfl⟩⟩
    | cons d ds => simp [puts] at hp
  | t :: ts, ds, env, e', σ, fps, vs, fp, Q, hp, E, hv, ap, k => by
    cases ds with
    | nil => simp [puts] at hp
    | cons d ds =>
      simp only [puts] at hp
      split at hp
      · rename_i e1 h1
        simp only [VAll] at hv
        obtain ⟨v, vr, f, g, ev, ef, hv1, hv2⟩ := hv
        simp only [tgHs, gCons]
        refine ⟨v, vr, ev, tg_er t h1 E hv1 (fun j d' ho b hb z => ap j d' ho b hb (by rw [ef]; exact List.mem_append_left _ z)) fun σ1 fps1 E1 w1 => ?_⟩
        refine tgs_er ts hp E1 hv2 (fun j d' ho b hb z => ?_) fun σ2 fps2 E2 w2 => k σ2 fps2 E2 fun j d' ho => ?_
        · obtain ⟨q1, q2⟩ := w1 j d' ho
          rw [q2] at hb
          exact ap j d' q1 b hb (by rw [ef]; exact List.mem_append_right _ z)
        · obtain ⟨q1, q2⟩ := w2 j d' ho
          obtain ⟨q3, q4⟩ := w1 j d' q1
          exact ⟨q3, q2.trans q4⟩
      · cases hp
end
mutual
theorem tg_pe : ∀ (T : Tg) {S : Addr → Prop} {d : D} {env e' : En} {σ : L2.St} {v : V} {fp : List Addr} {Q : L2.St → Hp → Prop}, put T d env = some e' → PEnv K mg S env σ H → Val K mg H d v fp → (∀ a ∈ fp, S a) →
    (∀ σ', PEnv K mg S e' σ' H → (∀ j, j ∉ slots T → σ'[j]? = σ[j]?) → σ'.length = σ.length → Q σ' H) → tgH K T v σ H Q
  | .nm i, S, d, env, e', σ, v, fp, Q, hp, P, hv, hS, k => by
    simp only [put] at hp
    split at hp
    · rename_i hi
      cases hp
      simp only [tgH, gName]
      refine k _ ⟨by simp [P.len], fun j e h => ?_⟩ (fun j hj => ?_) (by simp)
      · rw [look_set hi] at h
        by_cases c : j = i
        · subst c
          rw [if_pos rfl] at h
          cases h
          exact ⟨v, fp, List.getElem?_set_self (by rw [← P.len]; exact hi), hv, hS⟩
        · rw [if_neg c] at h
          rw [List.getElem?_set_ne (Ne.symm c)]
          exact P.val j e h
      · simp only [slots, List.mem_singleton] at hj
        rw [List.getElem?_set_ne (Ne.symm hj)]
    · cases hp
  | .tp ts, S, d, env, e', σ, v, fp, Q, hp, P, hv, hS, k => by
    simp only [put] at hp
    split at hp
    · rename_i ds hd
      obtain ⟨a, vs, f, ev, hs, hvs, hf⟩ := hv.seq hd
      simp only [tgH]
      refine ⟨a, vs, ev, hs, ?_, tgs_pe ts hp P hvs (fun b hb => hS b (hf b hb)) fun σ' P' w l => k σ' P' (fun j hj => w j (by simpa [slots] using hj)) l⟩
      rw [hvs.length]
      exact puts_length ts hp
    · cases hp
theorem tgs_pe : ∀ (ts : List Tg) {S : Addr → Prop} {ds : List D} {env e' : En} {σ : L2.St} {vs : List V} {fp : List Addr} {Q : L2.St → Hp → Prop}, puts ts ds env = some e' → PEnv K mg S env σ H → VAll K mg H ds vs fp → (∀ a ∈ fp, S a) →
    (∀ σ', PEnv K mg S e' σ' H → (∀ j, j ∉ slotsL ts → σ'[j]? = σ[j]?) → σ'.length = σ.length → Q σ' H) → tgHs K ts vs σ H Q
  | [], S, ds, env, e', σ, vs, fp, Q, hp, P, hv, hS, k => by
    cases ds with
    | nil =>
      simp only [puts, Option.some.injEq] at hp
      subst hp
      simp only [VAll] at hv
      simp only [tgHs, gNil]
      exact ⟨hv.1, k _ P (fun _ _ => rfl) rfl⟩
    | cons d ds => simp [puts] at hp
  | t :: ts, S, ds, env, e', σ, vs, fp, Q, hp, P, hv, hS, k => by
    cases ds with
    | nil => simp [puts] at hp
    | cons d ds =>
      simp only [puts] at hp
      split at hp
      · rename_i e1 h1
        simp only [VAll] at hv
        obtain ⟨v, vr, f, g, ev, ef, hv1, hv2⟩ := hv
        simp only [tgHs, gCons]
        refine ⟨v, vr, ev, tg_pe t h1 P hv1 (fun b hb => hS b (by rw [ef]; exact List.mem_append_left _ hb)) fun σ1 P1 w1 l1 => ?_⟩
        refine tgs_pe ts hp P1 hv2 (fun b hb => hS b (by rw [ef]; exact List.mem_append_right _ hb)) fun σ2 P2 w2 l2 => k σ2 P2 (fun j hj => ?_) (l2.trans l1)
        simp only [slotsL, List.mem_append, not_or] at hj
        rw [w2 j hj.2, w1 j hj.1]
      · cases hp
end
end

/-! ### what is walked -/
def ItD (K : PySem.W.Frag) (mg : Str → Option Value) (Z : Hp) (fi : List Addr) (J : It) (ds : List D) : Prop := ∀ H, Sm Z H → ∀ i,
  (∀ d, ds[i]? = some d → J.go i H ∧ ∀ x H', J.yld i H x H' → Sm H H' ∧ ∃ fp, Val K mg H' d x fp ∧ ∀ a ∈ fp, a ∈ fi ∧ Z a ≠ none) ∧ (ds.length ≤ i → J.stop i H)
def Stat : HO → Prop
  | .tup _ => True
  | .frz _ _ => True
  | _ => False
def WalkD (K : PySem.W.Frag) (mg : Str → Option Value) (H1 : Hp) (fi : List Addr) (J : It) (ds : List D) : Prop := ∀ Z : Hp, (∀ b o, H1 b = some o → (b ∈ fi ∨ Stat o) → Z b = some o) → ItD K mg Z fi J ds
def tI (K : PySem.W.Frag) (mg : Str → Option Value) (W : WX) (f : En → R (List D)) : TI := fun σ H R => ∃ S env, PEnv K mg S env σ H ∧ Out mg W σ H (f env) fun ds => ∀ J H1 fi, Sm H H1 → (∀ a ∈ fi, S a ∨ H a = none) → (∀ a ∈ fi, H1 a ≠ none) → WalkD K mg H1 fi J ds → R J H1
/-- what is walked is new -/
def tIF (K : PySem.W.Frag) (mg : Str → Option Value) (W : WX) (f : En → R (List D)) : TI := fun σ H R => ∃ S env, PEnv K mg S env σ H ∧ Out mg W σ H (f env) fun ds => ∀ J H1 fi, Sm H H1 → (∀ a ∈ fi, H a = none) → (∀ a ∈ fi, H1 a ≠ none) → WalkD K mg H1 fi J ds → R J H1
abbrev DI (X : Cx) (W : WX) (tg e : Expr) (f : En → R (List D)) : Prop := PI X tg e (tI X.K X.mg W f)
abbrev DIF (X : Cx) (W : WX) (tg e : Expr) (f : En → R (List D)) : Prop := PI X tg e (tIF X.K X.mg W f)
theorem pi_weak {X : Cx} {tg e : Expr} {t t' : TI} (h : PI X tg e t) (w : ∀ σ H Q, t' σ H Q → t σ H Q) : PI X tg e t' := ⟨fun pins s σ H Q I q => h.run pins s σ H Q I (w σ H Q q)⟩
theorem DIF.di {X : Cx} {W : WX} {tg e : Expr} {f : En → R (List D)} (h : DIF X W tg e f) : DI X W tg e f := pi_weak h fun σ H R ⟨S, env, P, q⟩ => ⟨S, env, P, q.imp fun ds q J H1 fi e h1 h2 w => q J H1 fi e (fun a ha => .inr (h1 a ha)) h2 w⟩
/-- the items of a sequence or a text -/
def iterD : D → Option (List D)
  | .str z => some (z.cps.toList.map fun c => .str ⟨#[c]⟩)
  | d => items d
def eIter (f : En → R D) (env : En) : R (List D) := f env >>= fun d => R.of (iterD d)
section
variable {X : Cx} {W : WX} {tg e : Expr} {f : En → R D}
def iAny (K : PySem.W.Frag) (tl : TE) : TI := fun σ H R => tl σ H fun x H1 => (∃ a, x = .ref a ∧ (∃ xs, SqL K H1 a xs) ∧ R (Itl K a) H1) ∨ (∃ a, x = .ref a ∧ (∃ xs, SqT K H1 a xs) ∧ R (Itt K a) H1) ∨ ∃ z, x = .str z ∧ R (Its z) H1
theorem pi_any {l : Expr} {tl : TE} (hl : PE X l tl) : PI X tg l (iAny X.K tl) := by
  refine ⟨fun pins s σ H R I h => ?_⟩
  refine thn (hl.run pins s σ H _ I h) fun v s1 ⟨x, H1, I1, r1, q1⟩ => ?_
  rcases q1 with ⟨a, e, ⟨xs, hq⟩, q⟩ | ⟨a, e, ⟨xs, hq⟩, q⟩ | ⟨z, ex, q⟩
  · subst e
    cases r1
    obtain ⟨its, rv, p, hz⟩ := I1.list hq
    refine wpAny_pyIter_list p.isList ?_
    refine ⟨s1.heap.objs.size, [s1.heap.objs.size], _, _, H1, rfl, I1.kept (t' := s1.toks) fun b o e => Heap.get?_push_of_some _ e, turn_list a _, ⟨_, Heap.get?_push_size _ rfl, rfl, rfl⟩, fun b hb => ?_, q⟩
    have e : b = s1.heap.objs.size := by simpa using hb
    subst e
    exact I1.fpOk (Nat.le_refl _) (I1.hok.fresh (Nat.le_refl _))
  · subst e
    cases r1
    obtain ⟨its, rv, p, hz⟩ := I1.tuple hq
    refine wpAny_pyIter_tuple (show s1.heap.IsTuple a its.toArray from p) ?_
    refine ⟨s1.heap.objs.size, [s1.heap.objs.size], _, _, H1, rfl, I1.kept (t' := s1.toks) fun b o e => Heap.get?_push_of_some _ e, turn_tuple a _, ⟨_, Heap.get?_push_size _ rfl, rfl, rfl⟩, fun b hb => ?_, q⟩
    have e : b = s1.heap.objs.size := by simpa using hb
    subst e
    exact I1.fpOk (Nat.le_refl _) (I1.hok.fresh (Nat.le_refl _))
  · subst ex
    obtain ⟨t, rfl⟩ := r1
    cases ha : z.cps.all (· < 128)
    · exact wpAny_pyIter_wide ha (pi_one (tk := s1.toks) I1 _ (turn_str _ z t "str_iterator" (.inr rfl)) ⟨_, Heap.get?_push_size _ rfl, rfl, rfl⟩ q)
    · exact wpAny_pyIter_ascii ha (pi_one (tk := s1.toks) I1 _ (turn_str _ z t "str_ascii_iterator" (.inl rfl)) ⟨_, Heap.get?_push_size _ rfl, rfl, rfl⟩ q)
theorem kp_of {fi g : List Addr} {H1 Z H : Hp} (hz : ∀ b o, H1 b = some o → (b ∈ fi ∨ Stat o) → Z b = some o) (e : Sm Z H) (hg : ∀ a ∈ g, a ∈ fi) : Kp g H1 H :=
  ⟨fun b u hb h => by
    rcases h with h | ⟨o, h⟩
    · exact .inl (e _ _ (hz _ _ h (.inl (hg b hb))))
    · exact .inr ⟨o, e _ _ (hz _ _ h (.inl (hg b hb)))⟩,
   fun b vs hb h => e _ _ (hz _ _ h (.inl (hg b hb))), fun b o vs h => e _ _ (hz _ _ h (.inr trivial)), fun b C dx fs hb h => e _ _ (hz _ _ h (.inl (hg b hb))), fun b xs h => e _ _ (hz _ _ h (.inr trivial))⟩
def WalkOut (K : PySem.W.Frag) (H1 : Hp) (x : V) (Rr : It → Hp → Prop) : Prop := (∃ a, x = .ref a ∧ (∃ xs, SqL K H1 a xs) ∧ Rr (Itl K a) H1) ∨ (∃ a, x = .ref a ∧ (∃ xs, SqT K H1 a xs) ∧ Rr (Itt K a) H1) ∨ ∃ z, x = .str z ∧ Rr (Its z) H1
theorem walk_val {K : PySem.W.Frag} {mg : Str → Option Value} {H1 : Hp} {d : D} {x : V} {fp : List Addr} {ds : List D} {Rr : It → Hp → Prop} (hv : Val K mg H1 d x fp) (hi : iterD d = some ds) (k : ∀ J, WalkD K mg H1 fp J ds → Rr J H1) :
    WalkOut K H1 x Rr := by
  -- the items' own part
  have item : ∀ {Z H : Hp} {vs : List V} {f : List Addr} {i : Nat} {y : V} {e0 : D}, (∀ b o, H1 b = some o → (b ∈ fp ∨ Stat o) → Z b = some o) → Sm Z H → VAll K mg H1 ds vs f → (∀ b ∈ f, b ∈ fp) → ds[i]? = some e0 → vs[i]? = some y → ∃ g, Val K mg H e0 y g ∧ ∀ a ∈ g, a ∈ fp ∧ Z a ≠ none := fun {Z H vs f i y e0} hz e hvs hf h1 h2 => by
    obtain ⟨u, g, q1, q2, q3⟩ := hvs.get h1
    rw [h2] at q1; cases q1
    refine ⟨g, Val.kp _ q2 (kp_of hz e fun a ha => hf a (q3 a ha)), fun a ha => ⟨hf a (q3 a ha), ?_⟩⟩
    obtain ⟨o, ho, _⟩ := Val.dom _ q2 a ha
    rw [hz a o ho (.inl (hf a (q3 a ha)))]
    exact fun z => nomatch z
  have list : ∀ {a vs f}, x = .ref a → (∀ {Z H : Hp}, (∀ b o, H1 b = some o → (b ∈ fp ∨ Stat o) → Z b = some o) → Sm Z H → SqL K H a vs) → SqL K H1 a vs → VAll K mg H1 ds vs f → (∀ b ∈ f, b ∈ fp) → WalkOut K H1 x Rr := fun {a vs f} ex hs h1 hvs hf =>
    Or.inl ⟨a, ex, ⟨vs, h1⟩, k _ fun Z hz H e i => ⟨fun e0 he0 => by
      obtain ⟨u, _, hu, _⟩ := hvs.get he0
      refine ⟨⟨vs, u, hs hz e, hu⟩, fun y H' hy => ?_⟩
      obtain ⟨rfl, hy⟩ := hy
      exact ⟨Sm.refl _, item hz e hvs hf he0 (hy vs (hs hz e))⟩, fun hl => ⟨vs, hs hz e, by rw [hvs.length]; exact hl⟩⟩⟩
  have tup : ∀ {a vs f}, x = .ref a → (∀ {Z H : Hp}, (∀ b o, H1 b = some o → (b ∈ fp ∨ Stat o) → Z b = some o) → Sm Z H → SqT K H a vs) → SqT K H1 a vs → VAll K mg H1 ds vs f → (∀ b ∈ f, b ∈ fp) → WalkOut K H1 x Rr := fun {a vs f} ex hs h1 hvs hf =>
    Or.inr (Or.inl ⟨a, ex, ⟨vs, h1⟩, k _ fun Z hz H e i => ⟨fun e0 he0 => by
      obtain ⟨u, _, hu, _⟩ := hvs.get he0
      refine ⟨⟨vs, u, hs hz e, hu⟩, fun y H' hy => ?_⟩
      obtain ⟨rfl, hy⟩ := hy
      exact ⟨Sm.refl _, item hz e hvs hf he0 (hy vs (hs hz e))⟩, fun hl => ⟨vs, hs hz e, by rw [hvs.length]; exact hl⟩⟩⟩)
  cases d <;> simp only [iterD, items, reduceCtorEq, Option.some.injEq] at hi
  · subst hi
    simp only [Val] at hv
    rename_i z
    refine .inr (.inr ⟨_, hv.1, k _ fun Z hz H e i => ⟨fun e0 he0 => ?_, fun hl => (show z.cps.size ≤ i from by simpa using hl)⟩⟩)
    rw [List.getElem?_map, Option.map_eq_some_iff] at he0
    obtain ⟨c, hc, rfl⟩ := he0
    have hlt : i < z.cps.size := by
      have := (List.getElem?_eq_some_iff.mp hc).1
      simpa using this
    refine ⟨hlt, fun y H' hy => ?_⟩
    obtain ⟨rfl, c', hc', rfl⟩ := hy
    rw [Array.getElem?_toList] at hc
    rw [hc'] at hc
    cases hc
    exact ⟨Sm.refl _, [], val_str, nf⟩
  · subst hi
    simp only [Val] at hv
    obtain ⟨a, vs, e1, h1, h2⟩ := hv
    exact tup e1 (fun hz e => .inl (.inl (e _ _ (hz _ _ h1 (.inr trivial))))) (.inl (.inl h1)) h2 fun b hb => hb
  · subst hi
    simp only [Val] at hv
    obtain ⟨a, vs, f, e1, e2, h1, h2⟩ := hv
    exact list e1 (fun hz e => .inl (.inl (e _ _ (hz _ _ h1 (.inl (by rw [e2]; exact List.mem_cons_self)))))) (.inl (.inl h1)) h2 fun b hb => by rw [e2]; exact List.mem_cons_of_mem _ hb
  · subst hi
    simp only [Val] at hv
    obtain ⟨a, vs, e1, h1, h2⟩ := hv
    refine list e1 (fun hz e => ?_) h1.sq h2 fun b hb => hb
    rcases h1 with ⟨o, h1⟩ | h1
    · exact .inl (.inr ⟨o, e _ _ (hz _ _ h1 (.inr trivial))⟩)
    · exact .inr h1
  · subst hi
    simp only [Val] at hv
    obtain ⟨a, vs, e1, h1, h2⟩ := hv
    exact tup e1 (fun _ _ => h1.sq) h1.sq h2 fun b hb => hb
theorem Val.there {K : PySem.W.Frag} {mg : Str → Option Value} {H : Hp} {d : D} {v : V} {fp : List Addr} (h : Val K mg H d v fp) : ∀ a ∈ fp, H a ≠ none := fun a ha z => h.gone ha z
theorem di_any (h : DE X W e f) : DI X W tg e (eIter f) := pi_weak (pi_any h) fun σ H R ⟨S, env, P, q⟩ => by
  refine stE P q fun d v H' fp e hv hp q => ?_
  obtain ⟨ds, eds, q⟩ := Out.of q
  exact walk_val hv eds fun J w => q J H' fp e hp hv.there w
theorem dif_any (h : DF X W e f) : DIF X W tg e (eIter f) := pi_weak (pi_any h) fun σ H R ⟨S, env, P, q⟩ => by
  refine ⟨S, env, P, q.bind.imp fun d q v H' fp e hv hn hp => ?_⟩
  obtain ⟨ds, eds, q⟩ := Out.of q
  exact walk_val hv eds fun J w => q J H' fp e (fun a ha => (hp a ha).1) hv.there w
end
/-! ### ranges -/
def rngD (lo : Int) (n : Nat) (c : Int) : List D := (List.range n).map fun k => .int (lo + (k : Nat) * c)
def small62 (i : Int) : Bool := decide (-(2 ^ 62) ≤ i) && decide (i < 2 ^ 62)
def rangeF1 : List D → Option (List D)
  | [.int j] => if small62 j = true then some (rngD 0 j.toNat 1) else none
  | _ => none
def rangeF2 : List D → Option (List D)
  | [.int i, .int j] => if small62 i = true ∧ small62 j = true then some (rngD i (j - i).toNat 1) else none
  | _ => none
/-- by a step of 1, -1 or 2 -/
def rangeF3 : List D → Option (List D)
  | [.int i, .int j, .int c] => if small62 i = true ∧ small62 j = true then (if c = -1 then some (rngD i (i - j).toNat (-1)) else if c = 2 then some (rngD i ((j - i + 1) / 2).toNat 2) else none) else none
  | _ => none
def eRange (F : List D → Option (List D)) (g : En → R (List D)) (env : En) : R (List D) := g env >>= fun ds => R.of (F ds)
theorem walk_rng {K : PySem.W.Frag} {mg : Str → Option Value} {H1 : Hp} {lo : Int} {n : Nat} : WalkD K mg H1 [] (Itr lo n) (rngD lo n 1) := fun Z hz H e i => by
  refine ⟨fun d hd => ?_, fun hl => by rw [rngD, List.length_map, List.length_range] at hl; exact hl⟩
  unfold rngD at hd
  rw [List.getElem?_map, Option.map_eq_some_iff] at hd
  obtain ⟨k, hk, rfl⟩ := hd
  obtain ⟨h1, h2⟩ := List.getElem?_eq_some_iff.mp hk
  rw [List.getElem_range] at h2
  subst h2
  rw [List.length_range] at h1
  refine ⟨h1, fun y H' hy => ?_⟩
  obtain ⟨rfl, rfl⟩ := hy
  exact ⟨Sm.refl _, [], by rw [Int.mul_one]; exact val_int, nf⟩
theorem walk_rngC {K : PySem.W.Frag} {mg : Str → Option Value} {H1 : Hp} {lo c : Int} {n : Nat} : WalkD K mg H1 [] (Itc lo c n) (rngD lo n c) := fun Z hz H e i => by
  refine ⟨fun d hd => ?_, fun hl => by rw [rngD, List.length_map, List.length_range] at hl; exact hl⟩
  unfold rngD at hd
  rw [List.getElem?_map, Option.map_eq_some_iff] at hd
  obtain ⟨k, hk, rfl⟩ := hd
  obtain ⟨h1, h2⟩ := List.getElem?_eq_some_iff.mp hk
  rw [List.getElem_range] at h2
  subst h2
  rw [List.length_range] at h1
  refine ⟨h1, fun y H' hy => ?_⟩
  obtain ⟨rfl, rfl⟩ := hy
  exact ⟨Sm.refl _, [], val_int, nf⟩
section
variable {X : Cx} {W : WX} {tg a b c : Expr} {p pos : Pos}
theorem small62_iff {i : Int} (h : small62 i = true) : -(2 ^ 62) ≤ i ∧ i < 2 ^ 62 := by simpa [small62] using h
theorem dif_rng1 {g : En → R (List D)} (hm : X.mg "range" = none) (ha : DA X W [a] g) (hg : Gl X "range" := by rfl) (hs : starEach [a] X.env = [(false, eval a X.env)] := by rfl) : DIF X W tg (.Call (.Name "range" p) [a] [] pos) (eRange rangeF1 g) :=
  pi_weak (pi_range1 hg hm ha hs) fun σ H R ⟨S, env, P, q⟩ => by
    refine stA P q fun ds vs H1 fp e hv hp q => ?_
    obtain ⟨rs, er, q⟩ := Out.of q
    unfold rangeF1 at er
    split at er
    · split at er
      · rename_i hz
        cases er
        obtain ⟨v, ev, h1⟩ := hv.inv1
        simp only [Val] at h1
        obtain ⟨q1, q2⟩ := small62_iff hz
        exact ⟨_, by rw [ev, h1.1], q1, q2, q _ H1 [] e nf nf walk_rng⟩
      · cases er
    · cases er
theorem dif_rng2 {g : En → R (List D)} (hm : X.mg "range" = none) (ha : DA X W [a, b] g) (hg : Gl X "range" := by rfl) (hs : starEach [a, b] X.env = [(false, eval a X.env), (false, eval b X.env)] := by rfl) (hs2 : starEach [b] X.env = [(false, eval b X.env)] := by rfl) :
    DIF X W tg (.Call (.Name "range" p) [a, b] [] pos) (eRange rangeF2 g) :=
  pi_weak (pi_range2 hg hm ha hs hs2) fun σ H R ⟨S, env, P, q⟩ => by
    refine stA P q fun ds vs H1 fp e hv hp q => ?_
    obtain ⟨rs, er, q⟩ := Out.of q
    unfold rangeF2 at er
    split at er
    · split at er
      · rename_i hz
        cases er
        obtain ⟨v, v2, f, f2, ev, ef, h1, h2⟩ := hv.inv2
        simp only [Val] at h1 h2
        obtain ⟨q1, q2⟩ := small62_iff hz.1
        obtain ⟨q3, q4⟩ := small62_iff hz.2
        exact ⟨_, _, by rw [ev, h1.1, h2.1], ⟨q1, q2, q3, q4⟩, q _ H1 [] e nf nf walk_rng⟩
      · cases er
    · cases er
theorem VAll.inv3 {K : PySem.W.Frag} {mg : Str → Option Value} {H : Hp} {d d2 d3 : D} {vs : List V} {fp : List Addr} (h : VAll K mg H [d, d2, d3] vs fp) : ∃ v v2 v3 f f2 f3, vs = [v, v2, v3] ∧ Val K mg H d v f ∧ Val K mg H d2 v2 f2 ∧ Val K mg H d3 v3 f3 := by
  simp only [VAll] at h
  obtain ⟨v, vr, f, g, e, ef, h1, v2, vr2, f2, g2, e2, ef2, h2, v3, vr3, f3, g3, e3, ef3, h3, h4, h5⟩ := h
  exact ⟨v, v2, v3, f, f2, f3, by rw [e, e2, e3, h4], h1, h2, h3⟩
theorem rgc2 {i j : Int} (ha : -(2 ^ 62) ≤ i) (ha' : i < 2 ^ 62) (hb : -(2 ^ 62) ≤ j) (hb' : j < 2 ^ 62) : RgC i j 2 ((j - i + 1) / 2).toNat := by
  have hs : Builtin.Range.rangeSize i j 2 = (((j - i + 1) / 2).toNat : Int) := by
    unfold Builtin.Range.rangeSize
    rw [if_pos (by decide)]
    split <;> omega
  refine ⟨by decide, by decide, ?_, hs⟩
  unfold Builtin.Range.small
  rw [hs]
  simp only [Builtin.Range.rangeFitsLong, Bool.and_eq_true, Bool.or_eq_true, decide_eq_true_eq, beq_iff_eq, show ((2 : Int) > 0) by decide, if_true]
  omega
theorem dif_rng3 {g : En → R (List D)} (hm : X.mg "range" = none) (ha : DA X W [a, b, c] g) (hg : Gl X "range" := by rfl) (hs : starEach [a, b, c] X.env = (false, eval a X.env) :: starEach [b, c] X.env := by rfl) (hpl : (backTo pos (starEach [b, c] X.env)).any (·.1) = false := by rfl) :
    DIF X W tg (.Call (.Name "range" p) [a, b, c] [] pos) (eRange rangeF3 g) :=
  pi_weak (pi_range3 hg hm ha hs hpl) fun σ H R ⟨S, env, P, q⟩ => by
    refine stA P q fun ds vs H1 fp e hv hp q => ?_
    obtain ⟨rs, er, qq⟩ := Out.of q; clear q
    unfold rangeF3 at er
    split at er
    · split at er
      · rename_i hz
        obtain ⟨v, v2, v3, f, f2, f3, ev, h1, h2, h3⟩ := hv.inv3
        simp only [Val] at h1 h2 h3
        obtain ⟨q1, q2⟩ := small62_iff hz.1
        obtain ⟨q3, q4⟩ := small62_iff hz.2
        split at er
        · rename_i hc
          cases er
          subst hc
          exact ⟨_, _, -1, _, by rw [ev, h1.1, h2.1, h3.1], RgC.neg q1 q2 q3 q4, qq _ H1 [] e nf nf walk_rngC⟩
        · split at er
          · rename_i hc
            cases er
            subst hc
            exact ⟨_, _, 2, _, by rw [ev, h1.1, h2.1, h3.1], rgc2 q1 q2 q3 q4, qq _ H1 [] e nf nf walk_rngC⟩
          · cases er
      · cases er
    · cases er
end
end DL
set_option Elab.async false
set_option linter.all false
set_option maxRecDepth 100000
set_option maxHeartbeats 2000000
namespace DL
open PySem PySem.Spec PyProof.Rows L2

/-! ### for -/
def loop (T : Tg) (body : En → Fl) : List D → En → Fl
  | [], env => .nx env
  | d :: ds, env => match put T d env with
    | none => .no
    | some e => match body e with
      | .nx e' => loop T body ds e'
      | .ct e' => loop T body ds e'
      | .bk e' => .nx e'
      | r => r
def freezes : List Nat → En → En
  | [], env => env
  | i :: r, env => freezes r (freeze i env)
/-- over what is new or can't be changed -/
def sForF (T : Tg) (fi : En → R (List D)) (body : En → Fl) (env : En) : Fl := onE (fi env) env fun ds => loop T body ds env
/-- over what is shared; fz: slots that are shared from here on -/
def sForS (fz : List Nat) (T : Tg) (fi : En → R (List D)) (body : En → Fl) (env : En) : Fl := onE (fi ((freezes fz env).map hideS)) (freezes fz env) fun ds => loop T body ds (freezes fz env)
section
variable {K : PySem.W.Frag} {mg : Str → Option Value} {Z Z' H H1 : Hp} {env : En} {σ : L2.St} {fps : Nat → List Addr} {W : WX} {D' : Ends}
theorem ER.freezes (E : ER K mg Z env σ H fps) : ∀ l, ER K mg Z (freezes l env) σ H fps := fun l => by
  induction l generalizing env with
  | nil => exact E
  | cons i r ih => exact ih (E.freeze i)
/-- more is not to be changed: Z and what is at fi, as it stands in H1 -/
noncomputable def more (Z : Hp) (fi : List Addr) (H1 : Hp) : Hp := fun b => if Z b ≠ none then Z b else open Classical in if b ∈ fi ∨ ∃ o, H1 b = some o ∧ Stat o then H1 b else none
theorem more_z {fi : List Addr} : Sm Z (more Z fi H1) := fun b o e => by
  unfold more
  rw [if_pos (by rw [e]; exact fun z => nomatch z)]; exact e
theorem more_sm {fi : List Addr} (e : Sm Z H1) : Sm (more Z fi H1) H1 := fun b o h => by
  unfold more at h
  split at h
  · exact e b o h
  · split at h
    · exact h
    · cases h
theorem more_has {fi : List Addr} (e : Sm Z H1) : ∀ b o, H1 b = some o → (b ∈ fi ∨ Stat o) → more Z fi H1 b = some o := fun b o h c => by
  unfold more
  split
  · rename_i hz
    cases q : Z b with
    | none => exact absurd q hz
    | some u => rw [e b u q] at h; exact h
  · rw [if_pos (c.imp id fun s => ⟨o, h, s⟩)]; exact h
theorem more_none {fi : List Addr} {a : Addr} (h0 : Z a = none) (h1 : a ∉ fi) (m : Mut (H1 a)) : more Z fi H1 a = none := by
  unfold more
  rw [if_neg (by rw [h0]; exact fun z => z rfl), if_neg]
  rintro (z | ⟨o, e, s⟩)
  · exact h1 z
  · rw [e] at m
    cases o <;> first | exact m | exact s
theorem ER.more (E : ER K mg Z env σ H1 fps) {fi : List Addr} (ap : ∀ j d', env[j]? = some (.ow d') → ∀ a ∈ fps j, a ∉ fi) : ER K mg (more Z fi H1) env σ H1 fps :=
  ⟨E.len, E.val, fun i d h => ⟨(E.own i d h).1, fun a ha => ⟨more_none ((E.own i d h).2.1 a ha).1 (ap i d h a ha) ((E.own i d h).2.1 a ha).2, ((E.own i d h).2.1 a ha).2⟩, (E.own i d h).2.2⟩, more_sm E.keep⟩
theorem EO.less (E : EO K mg Z' env σ H) (e : Sm Z Z') : EO K mg Z env σ H := by
  obtain ⟨fps, E⟩ := E
  refine ⟨fps, E.len, E.val, fun i d h => ⟨(E.own i d h).1, fun a ha => ⟨e.back ((E.own i d h).2.1 a ha).1, ((E.own i d h).2.1 a ha).2⟩, (E.own i d h).2.2⟩, e.trans E.keep⟩
theorem Go.less {r : Fl} (g : Go K mg W Z D' r) (e : Sm Z Z') : Go K mg W Z' D' r := by
  cases r with
  | nx e' => exact fun σ' H' E => g σ' H' (E.less e)
  | rt d => exact fun v H' fp k hv hn hp => g v H' fp (e.trans k) hv hn fun a ha => ⟨e.back (hp a ha).1, (hp a ha).2⟩
  | bk e' => exact fun σ' H' E => g σ' H' (E.less e)
  | ct e' => exact fun σ' H' E => g σ' H' (E.less e)
  | ex c e' => exact fun C σ' H' m E => g C σ' H' m (E.less e)
  | no => exact g
/-- the loop itself -/
theorem st_loop {J : It} {T : Tg} {F : En → Fl} {ds : List D} {fi : List Addr} (hw : ItD K mg Z fi J ds) (E : EO K mg Z env σ H) (g : Go K mg W Z D' (loop T F ds env)) :
    ∃ Wv : Nat → Nat → L2.St → Hp → Prop, (∃ m, Wv 0 m σ H) ∧ ∀ i m σ H, Wv i m σ H → (J.stop i H ∧ D'.nx σ H) ∨
      (J.go i H ∧ ∃ N : L2.St → Hp → Prop, (∀ σ' H', N σ' H' → ∃ m', m' < m ∧ Wv (i + 1) m' σ' H') ∧ ∀ x H', J.yld i H x H' → tgH K T x σ H' fun σ2 H2 => tS K mg W F { D' with nx := N, ct := N, bk := D'.nx } σ2 H2) := by
  refine ⟨fun i m σ H => m = ds.length - i ∧ i ≤ ds.length ∧ ∃ env, EO K mg Z env σ H ∧ Go K mg W Z D' (loop T F (ds.drop i) env), ⟨ds.length, by simp, Nat.zero_le _, env, E, g⟩, ?_⟩
  rintro i m σ H ⟨rfl, hi, env, E, g⟩
  obtain ⟨fps, E⟩ := E
  obtain ⟨w1, w2⟩ := hw H E.keep i
  by_cases hl : i < ds.length
  · refine .inr ?_
    have hd : ds[i]? = some ds[i] := List.getElem?_eq_getElem hl
    obtain ⟨go, y⟩ := w1 _ hd
    refine ⟨go, fun σ' H' => ∃ env, EO K mg Z env σ' H' ∧ Go K mg W Z D' (loop T F (ds.drop (i + 1)) env), fun σ' H' ⟨e', q1, q2⟩ => ⟨ds.length - (i + 1), by omega, rfl, hl, e', q1, q2⟩, fun x H' hy => ?_⟩
    obtain ⟨e, fp, hv, hz⟩ := y x H' hy
    rw [List.drop_eq_getElem_cons hl] at g
    unfold loop at g
    split at g
    · exact g.elim
    · rename_i e1 he1
      refine tg_er T he1 (E.sm e) hv (fun j d' ho a ha z => (hz a z).2 ((E.own j d' ho).2.1 a ha).1) fun σ2 fps2 E2 _ => ?_
      refine ⟨Z, e1, ⟨fps2, E2⟩, ?_⟩
      cases q : F e1 with
      | nx e' => rw [q] at g; exact fun σ' H' E' => ⟨e', E', g⟩
      | ct e' => rw [q] at g; exact fun σ' H' E' => ⟨e', E', g⟩
      | bk e' => rw [q] at g; exact g
      | rt d => rw [q] at g; exact g
      | ex c e' => rw [q] at g; exact g
      | no => rw [q] at g; exact g
  · have hi' : i = ds.length := by omega
    subst hi'
    rw [List.drop_length] at g
    exact .inl ⟨w2 (Nat.le_refl _), g σ H ⟨fps, E⟩⟩
end
section
variable {X : Cx} {W : WX} {pos : Pos} {tg iter : Expr} {body : List Stmt} {T : Tg} {fi : En → R (List D)} {F : En → Fl}
theorem ds_forF (hi : DIF X W tg iter fi) (ht : DG X tg T) (hb : DSs X W body F) (hp : PassesOwn (model X.prog X.w) X.A X.env X.xe) (hc : X.calm = true := by rfl) (hs : ∀ x, foldedSetIterable iter X.env x = pure x := by intro _; rfl) : DS X W (.For tg iter body [] pos) (sForF T fi F) :=
  ps_weak (ps_for hp hc hi ht hb hs) fun D σ H ⟨Z, env, E, g⟩ => by
    have E' := E
    obtain ⟨fps, E⟩ := E
    refine ⟨_, env, E.penv, (Go.out E' g).imp fun ds g J H1 fi e h1 h2 w => ?_⟩
    have E1 := (E.sm e).more (fi := fi) fun j d' ho a ha z => by
      obtain ⟨u, _, hu⟩ := E.val j d' (look_ow ho)
      exact hu.gone ha (h1 a z)
    exact st_loop (w _ (more_has (E.keep.trans e))) ⟨fps, E1⟩ (g.less more_z)
theorem ds_forS {fz : List Nat} (hi : DI X W tg iter fi) (ht : DG X tg T) (hb : DSs X W body F) (hp : PassesOwn (model X.prog X.w) X.A X.env X.xe) (hc : X.calm = true := by rfl) (hs : ∀ x, foldedSetIterable iter X.env x = pure x := by intro _; rfl) : DS X W (.For tg iter body [] pos) (sForS fz T fi F) :=
  ps_weak (ps_for hp hc hi ht hb hs) fun D σ H ⟨Z, env, E, g⟩ => by
    obtain ⟨fps, E⟩ := E
    have E := E.freezes fz
    refine ⟨_, _, E.hide, (Go.out ⟨fps, E⟩ g).imp fun ds g J H1 fi e h1 h2 w => ?_⟩
    have E1 := (E.sm e).more (fi := fi) fun j d' ho => E.apart h1 ho
    exact st_loop (w _ (more_has (E.keep.trans e))) ⟨fps, E1⟩ (g.less more_z)
/-! ### while -/
def wloop (c : En → R Bool) (body : En → Fl) : Nat → En → Fl
  | 0, _ => .no
  | n + 1, env => onE (c env) env fun b => if b = true then (match body env with
      | .nx e => wloop c body n e
      | .ct e => wloop c body n e
      | .bk e => .nx e
      | r => r) else .nx env
def sWhile (n : Nat) (c : En → R Bool) (body : En → Fl) (env : En) : Fl := wloop c body n env
theorem ds_while {n : Nat} {c : Expr} {t : En → R Bool} (hc : DT X W c t) (hb : DSs X W body F) (hp : PassesOwn (model X.prog X.w) X.A X.env X.xe) : DS X W (.While c body [] pos) (sWhile n t F) :=
  ps_weak (ps_while hp hc hb) fun D σ H ⟨Z, env, E, g⟩ => by
    refine ⟨fun m σ H => ∃ env, EO X.K X.mg Z env σ H ∧ Go X.K X.mg W Z D (wloop t F m env), ⟨n, env, E, g⟩, ?_⟩
    rintro m σ H ⟨env, E, g⟩
    cases m with
    | zero => exact g.elim
    | succ m =>
      have E' := E
      obtain ⟨fps, E⟩ := E
      unfold wloop at g
      refine ⟨_, env, E.penv, (Go.out E' g).imp fun b g H' e => ?_⟩
      cases b with
      | true =>
        simp only [if_true] at g ⊢
        refine ⟨fun σ' H' => ∃ env, EO X.K X.mg Z env σ' H' ∧ Go X.K X.mg W Z D (wloop t F m env), fun σ' H' h => ⟨m, Nat.lt_succ_self m, h⟩, Z, env, E'.sm e, ?_⟩
        cases q : F env with
        | nx e' => rw [q] at g; exact fun σ' H' E' => ⟨e', E', g⟩
        | ct e' => rw [q] at g; exact fun σ' H' E' => ⟨e', E', g⟩
        | bk e' => rw [q] at g; exact g
        | rt d => rw [q] at g; exact g
        | ex c e' => rw [q] at g; exact g
        | no => rw [q] at g; exact g
      | false =>
        simp only [Bool.false_eq_true, if_false] at g ⊢
        exact g σ H' (E'.sm e)
end

/-! ### list comprehensions -/
abbrev W0 : WX := fun _ _ _ _ => False
def sure {a : Type} : R a → Option a
  | .ok x => some x
  | _ => none
def wipeE (env : En) : List Nat → En
  | [] => env
  | v :: vs => (wipeE env vs).set v .un
/-- the items: T's slots take each, c tells whether it is kept, f what is made of it -/
def cmp (T : Tg) (c : En → R Bool) (f : En → R D) (env : En) : List D → Option (List D)
  | [] => some []
  | d :: ds => (put T d env).bind fun e => (sure (c e)).bind fun b => if b = true then (sure (f e)).bind fun y => (cmp T c f env ds).map (y :: ·) else cmp T c f env ds
def eComp (vs : List Nat) (T : Tg) (fi : En → R (List D)) (c : En → R Bool) (f : En → R D) (env : En) : R D := fi env >>= fun ds => R.of (if ds.length ≤ sizeLine then (cmp T c f (wipeE env vs) ds).map .lst else none)
def eYes (_ : En) : R Bool := .ok true
theorem cmp_length {T : Tg} {c : En → R Bool} {f : En → R D} {env : En} : ∀ {ds rs : List D}, cmp T c f env ds = some rs → rs.length ≤ ds.length
  | [], rs, h => by simp only [cmp, Option.some.injEq] at h; subst h; simp
  | d :: ds, rs, h => by
    simp only [cmp, Option.bind_eq_some_iff] at h
    obtain ⟨e, h1, b, h2, h⟩ := h
    split at h
    · simp only [Option.bind_eq_some_iff, Option.map_eq_some_iff] at h
      obtain ⟨y, h3, r, h4, rfl⟩ := h
      have := cmp_length h4
      simp only [List.length_cons]; omega
    · have := cmp_length h
      simp only [List.length_cons]; omega
theorem wipe_ext {σ σ' : L2.St} : ∀ {vs : List Nat}, σ'.length = σ.length → (∀ j, j ∉ vs → σ'[j]? = σ[j]?) → wipe σ' vs = wipe σ vs := by
  intro vs hl h
  have out : ∀ (τ : L2.St) (vs : List Nat) (j : Nat), (wipe τ vs)[j]? = if j ∈ vs ∧ j < τ.length then some none else τ[j]? := by
    intro τ vs j
    induction vs with
    | nil => simp [wipe]
    | cons v vs ih =>
      unfold wipe
      by_cases c : v = j
      · subst c
        by_cases q : v < τ.length
        · rw [List.getElem?_set_self (by rw [wipe_length]; exact q), if_pos ⟨List.mem_cons_self, q⟩]
        · rw [List.getElem?_eq_none (by rw [List.length_set, wipe_length]; omega), if_neg (fun z => q z.2), List.getElem?_eq_none (by omega)]
      · rw [List.getElem?_set_ne c, ih]
        have : (j ∈ v :: vs) ↔ (j ∈ vs) := by simp [Ne.symm c]
        simp only [this]
  refine List.ext_getElem? fun j => ?_
  rw [out, out, hl]
  by_cases c : j ∈ vs
  · by_cases q : j < σ.length
    · rw [if_pos ⟨c, q⟩, if_pos ⟨c, q⟩]
    · rw [if_neg (fun z => q z.2), if_neg (fun z => q z.2), List.getElem?_eq_none (by omega), List.getElem?_eq_none (by omega)]
  · rw [if_neg (fun z => c z.1), if_neg (fun z => c z.1), h j c]
theorem look_wipeE {env : En} {j : Nat} {d : D} : ∀ {vs : List Nat}, look (wipeE env vs) j = some d → look env j = some d ∧ j ∉ vs
  | [], h => ⟨h, by simp⟩
  | v :: vs, h => by
    unfold wipeE at h
    by_cases hv : v < (wipeE env vs).length
    · rw [look_set hv] at h
      split at h
      · cases h
      · rename_i hj
        obtain ⟨h1, h2⟩ := look_wipeE h
        exact ⟨h1, by simp [h2, hj]⟩
    · rw [List.set_eq_of_length_le (by omega)] at h
      obtain ⟨h1, h2⟩ := look_wipeE h
      have := look_lt h
      exact ⟨h1, by simp only [List.mem_cons, not_or]; exact ⟨fun c => by subst c; exact hv this, h2⟩⟩
theorem wipeE_length {env : En} : ∀ {vs : List Nat}, (wipeE env vs).length = env.length
  | [] => rfl
  | v :: vs => by unfold wipeE; rw [List.length_set, wipeE_length]
theorem wipe_keep {σ : L2.St} {j : Nat} : ∀ {vs : List Nat}, j ∉ vs → (wipe σ vs)[j]? = σ[j]?
  | [], _ => rfl
  | v :: vs, h => by
    simp only [List.mem_cons, not_or] at h
    unfold wipe
    rw [List.getElem?_set_ne (Ne.symm h.1)]
    exact wipe_keep h.2
theorem PEnv.wipe {K : PySem.W.Frag} {mg : Str → Option Value} {S : Addr → Prop} {env : En} {σ : L2.St} {H : Hp} (P : PEnv K mg S env σ H) (vs : List Nat) : PEnv K mg S (wipeE env vs) (L2.wipe σ vs) H :=
  ⟨by rw [wipeE_length, wipe_length]; exact P.len, fun j d h => by
    obtain ⟨h1, h2⟩ := look_wipeE h
    rw [wipe_keep h2]
    exact P.val j d h1⟩
abbrev DTs (X : Cx) (W : WX) (ifs : List Expr) (c : En → R Bool) : Prop := PTs X ifs (tT X.K X.mg W c)
theorem dts_nil {X : Cx} {W : WX} : DTs X W [] eYes := ⟨fun pins s σ H Q I ⟨S, env, P, q⟩ => pts_nil.run pins s σ H Q I (q H (Sm.refl H))⟩
theorem dts_one {X : Cx} {W : WX} {c : Expr} {t : En → R Bool} (h : DT X W c t) : DTs X W [c] t := pts_one h
theorem sure_out {mg : Str → Option Value} {W : WX} {σ : L2.St} {H : Hp} {a : Type} {r : R a} {x : a} {k : a → Prop} (h : sure r = some x) (q : k x) : Out mg W σ H r k := by
  cases r <;> simp [sure] at h
  subst h; exact q
section
variable {K : PySem.W.Frag} {mg : Str → Option Value} {S : Addr → Prop} {env : En} {σ : L2.St} {H : Hp} {W : WX}
/-- the state of a comprehension after some items: D1 the new list, ys made so far -/
structure CS (K : PySem.W.Frag) (mg : Str → Option Value) (S : Addr → Prop) (H0 H1 : Hp) (L : Addr) (ys : List D) (H : Hp) (fresh : Bool) : Prop where
  keep : Sm H1 H
  ex : ∃ vs f, H L = some (.lst vs) ∧ VAll K mg H ys vs f ∧ L ∉ f ∧ (∀ b ∈ f, S b ∨ H0 b = none) ∧ (fresh = true → f.Nodup ∧ ∀ b ∈ f, H0 b = none ∧ Mut (H b))
theorem CS.push {S : Addr → Prop} {H0 H1 H2 : Hp} {L : Addr} {ys : List D} {fr : Bool} (c : CS K mg S H0 H1 L ys H fr) (hL : H1 L = none) (e : Sm H H2) {y : D} {v : V} {fp : List Addr} (hy : Val K mg H2 y v fp) (hLf : L ∉ fp) (hp : ∀ b ∈ fp, S b ∨ H0 b = none)
    (hfr : fr = true → fp.Nodup ∧ ∀ b ∈ fp, H b = none ∧ H0 b = none ∧ Mut (H2 b)) : ∃ vs, H2 L = some (.lst vs) ∧ vs.length = ys.length ∧ CS K mg S H0 H1 L (ys ++ [y]) (upd H2 L (.lst (vs ++ [v]))) fr := by
  obtain ⟨vs, f, h1, h2, h3, h4, h5⟩ := c.ex
  have hl2 := e _ _ h1
  have m : ∀ {fq}, L ∉ fq → Kp fq H2 (upd H2 L (.lst (vs ++ [v]))) := fun hq => Kp.upd hq (fun xs z => by rw [hl2] at z; cases z) (fun o xs z => by rw [hl2] at z; cases z)
  refine ⟨vs, hl2, h2.length, fun b o hb => ?_, vs ++ [v], f ++ fp, upd_same, (VAll.kp _ (h2.sm e) (m h3)).append (VAll.one (Val.kp _ hy (m hLf))), fun z => (List.mem_append.mp z).elim h3 hLf, fun b hb => (List.mem_append.mp hb).elim (h4 b) (hp b), fun hf => ?_⟩
  · rw [upd_ne (ne_of_none hb hL)]
    exact e _ _ (c.keep _ _ hb)
  · obtain ⟨n1, p1⟩ := h5 hf
    obtain ⟨n2, p2⟩ := hfr hf
    refine ⟨List.nodup_append.mpr ⟨n1, n2, fun a ha b hb z => ?_⟩, fun b hb => ?_⟩
    · subst z
      obtain ⟨o, q, _⟩ := VAll.dom _ h2 a ha
      rw [(p2 a hb).1] at q; cases q
    · rcases List.mem_append.mp hb with z | z
      · refine ⟨(p1 b z).1, ?_⟩
        rw [upd_ne (fun cc => by subst cc; exact h3 z)]
        exact mut_sm e (p1 b z).2
      · refine ⟨(p2 b z).2.1, ?_⟩
        rw [upd_ne (fun cc => by subst cc; exact hLf z)]
        exact (p2 b z).2.2
theorem CS.sm {S : Addr → Prop} {H0 H1 H H2 : Hp} {L : Addr} {ys : List D} {fr : Bool} (c : CS K mg S H0 H1 L ys H fr) (hL : H1 L = none) (e : Sm H H2) : CS K mg S H0 H1 L ys H2 fr := by
  obtain ⟨vs, f, h1, h2, h3, h4, h5⟩ := c.ex
  exact ⟨c.keep.trans e, vs, f, e _ _ h1, h2.sm e, h3, h4, fun hf => ⟨(h5 hf).1, fun b hb => ⟨((h5 hf).2 b hb).1, mut_sm e ((h5 hf).2 b hb).2⟩⟩⟩
end
section
variable {X : Cx} {W : WX} {elt tg iter : Expr} {ifs : List Expr} {scope : Scope} {own : List (Str × Nat)} {pos : Pos} {T : Tg} {fi : En → R (List D)} {c : En → R Bool} {f : En → R D}
/-- the turns; te the element's reading: fr tells whether it is new -/
theorem st_comp {K : PySem.W.Frag} {mg : Str → Option Value} {S : Addr → Prop} {env : En} {σ : L2.St} {H H1 : Hp} {Q : VK} {J : It} {ds rs : List D} {fi : List Addr} {L : Addr} {vs : List Nat} {te : TE} {fr : Bool} (hvs : ∀ j ∈ slots T, j ∈ vs) (P : PEnv K mg S env σ H) (e : Sm H H1) (w : WalkD K mg H1 fi J ds)
    (hfi : ∀ a ∈ fi, S a ∨ H a = none) (hL : H1 L = none) (hz : ds.length ≤ sizeLine) (hr : cmp T c f (wipeE env vs) ds = some rs)
    (hte : ∀ {S' : Addr → Prop} {e1 : En} {σ1 : L2.St} {H3 : Hp} {Q1 : VK} {y : D}, PEnv K mg S' e1 σ1 H3 → sure (f e1) = some y → (∀ v H4 fp, Sm H3 H4 → Val K mg H4 y v fp → (∀ a ∈ fp, S' a ∨ H3 a = none) → (fr = true → fp.Nodup ∧ ∀ a ∈ fp, H3 a = none ∧ Mut (H4 a)) → Q1 v H4) → te σ1 H3 Q1)
    (k : ∀ H', CS K mg S H H1 L rs H' fr → Q (.ref L) H') :
    ∃ Wv : Nat → Nat → Hp → Prop, (∃ m, Wv 0 m (upd H1 L (.lst []))) ∧ ∀ i m H, Wv i m H → (J.stop i H ∧ Q (.ref L) H) ∨ (J.go i H ∧ ∃ Nx : Hp → Prop, (∀ H', Nx H' → ∃ m', m' < m ∧ Wv (i + 1) m' H') ∧ ∀ x H', J.yld i H x H' →
      tgH K T x (wipe σ vs) H' fun σ2 H2 => wipe σ2 vs = wipe σ vs ∧ tT K mg W0 c σ2 H2 fun b H3 => if b = true then te σ2 H3 fun y H4 => ∃ acc, H4 L = some (.lst acc) ∧ acc.length < sizeLine ∧ Nx (upd H4 L (.lst (acc ++ [y]))) else Nx H3) := by
  have hw := w H1 fun b o h _ => h
  refine ⟨fun i m H' => m = ds.length - i ∧ i ≤ ds.length ∧ ∃ ys zs, CS K mg S H H1 L ys H' fr ∧ ys.length ≤ i ∧ cmp T c f (wipeE env vs) (ds.drop i) = some zs ∧ ys ++ zs = rs,
    ⟨ds.length, by simp, Nat.zero_le _, [], rs, ⟨Sm.new hL, [], [], upd_same, VAll.nil, by simp, nf, fun _ => ⟨List.nodup_nil, nf⟩⟩, Nat.zero_le _, by simpa using hr, rfl⟩, ?_⟩
  rintro i m H' ⟨rfl, hi, ys, zs, cs, hyl, hc, hyz⟩
  obtain ⟨w1, w2⟩ := hw H' cs.keep i
  by_cases hl : i < ds.length
  · refine .inr ?_
    have hd : ds[i]? = some ds[i] := List.getElem?_eq_getElem hl
    obtain ⟨go, y⟩ := w1 _ hd
    refine ⟨go, fun H' => ∃ ys zs, CS K mg S H H1 L ys H' fr ∧ ys.length ≤ i + 1 ∧ cmp T c f (wipeE env vs) (ds.drop (i + 1)) = some zs ∧ ys ++ zs = rs, fun H' h => ⟨ds.length - (i + 1), by omega, rfl, hl, h⟩, fun x H2 hy => ?_⟩
    obtain ⟨e2, fp, hv, hfp⟩ := y x H2 hy
    rw [List.drop_eq_getElem_cons hl] at hc
    simp only [cmp, Option.bind_eq_some_iff] at hc
    obtain ⟨e1, he1, b, hb, hc⟩ := hc
    -- what may be changed of the block's values: of before, or of the first heap
    have P2 : PEnv K mg (fun a => (S a ∨ H a = none) ∧ a ≠ L) (wipeE env vs) (wipe σ vs) H2 := by
      have q := ((P.sm (e.trans (cs.keep.trans e2))).wipe vs)
      refine ⟨q.len, fun j d h => ?_⟩
      obtain ⟨h1, h2⟩ := look_wipeE h
      obtain ⟨v, g, g1, g2, g3⟩ := P.val j d h1
      refine ⟨v, g, by rw [wipe_keep h2]; exact g1, g2.sm (e.trans (cs.keep.trans e2)), fun a ha => ⟨.inl (g3 a ha), fun z => ?_⟩⟩
      subst z
      obtain ⟨o, ho, _⟩ := Val.dom _ g2 a ha
      rw [e a o ho] at hL; cases hL
    have hS : ∀ a ∈ fp, (S a ∨ H a = none) ∧ a ≠ L := fun a ha => ⟨hfi a (hfp a ha).1, fun z => by
      subst z; exact (hfp a ha).2 hL⟩
    refine tg_pe T he1 P2 hv hS fun σ2 P3 same len => ⟨?_, ?_⟩
    · rw [wipe_ext (σ := wipe σ vs) len (fun j hj => same j (fun z => hj (hvs j z)))]
      exact wipe_ext (wipe_length σ vs) (fun j hj => wipe_keep hj)
    · refine ⟨_, e1, P3, sure_out hb fun H3 e3 => ?_⟩
      have cs3 := cs.sm hL (e2.trans e3)
      cases b with
      | true =>
        simp only [if_true] at hc ⊢
        simp only [Option.bind_eq_some_iff, Option.map_eq_some_iff] at hc
        obtain ⟨y0, hy0, zs', hzs, rfl⟩ := hc
        refine hte (P3.sm e3) hy0 fun v H4 fp4 e4 hv4 hs4 hf4 => ?_
        obtain ⟨vs0, f0, q0, _⟩ := cs3.ex
        have hL3 : H3 L ≠ none := by rw [q0]; exact fun z => nomatch z
        have old : ∀ b, H3 b = none → H b = none := fun b hb => (e.trans (cs.keep.trans (e2.trans e3))).back hb
        obtain ⟨acc, a1, a2, a3⟩ := cs3.push hL e4 hv4 (fun z => (hs4 L z).elim (fun z => z.2 rfl) (fun z => hL3 z)) (fun b hb => (hs4 b hb).elim (fun z => z.1) fun z => .inr (old b z)) fun hf => ⟨(hf4 hf).1, fun b hb => ⟨((hf4 hf).2 b hb).1, old b ((hf4 hf).2 b hb).1, ((hf4 hf).2 b hb).2⟩⟩
        exact ⟨acc, a1, by omega, ys ++ [y0], zs', a3, by simp; omega, hzs, by simp [← hyz]⟩
      | false =>
        simp only [Bool.false_eq_true, if_false] at hc ⊢
        exact ⟨ys, zs, cs3, by omega, hc, hyz⟩
  · have hi' : i = ds.length := by omega
    subst hi'
    rw [List.drop_length] at hc
    simp only [cmp, Option.some.injEq] at hc
    subst hc
    rw [List.append_nil] at hyz
    subst hyz
    exact .inl ⟨w2 (Nat.le_refl _), k H' cs⟩
end
end DL
set_option Elab.async false
set_option linter.all false
set_option maxRecDepth 100000
set_option maxHeartbeats 2000000
namespace DL
open PySem PySem.Spec PyProof.Rows L2
section
variable {X : Cx} {W : WX} {elt tg iter : Expr} {ifs : List Expr} {scope : Scope} {own : List (Str × Nat)} {pos : Pos} {T : Tg} {fi : En → R (List D)} {c : En → R Bool} {f : En → R D}
theorem subset_vs {l vs : List Nat} (h : (l.all fun j => vs.contains j) = true) : ∀ j ∈ l, j ∈ vs := fun j hj => by
  have := List.all_eq_true.mp h j hj
  simpa using this
theorem comp_q (hvs : ((slots T).all fun j => (own.map (·.2)).contains j) = true) {σ : L2.St} {H : Hp} {Q : VK} (h : tQ X.K X.mg W (eComp (own.map (·.2)) T fi c f) σ H Q) : tLc (tI X.K X.mg W fi) (tgH X.K T) (tT X.K X.mg W0 c) (tE X.K X.mg W0 f) (own.map (·.2)) σ H Q := by
  obtain ⟨S, env, P, q⟩ := h
  refine ⟨S, env, P, q.bind.imp fun ds q J H1 fi e h1 h2 w L hL => ?_⟩
  obtain ⟨d, ed, q⟩ := Out.of q
  split at ed
  · rename_i hz
    simp only [Option.map_eq_some_iff] at ed
    obtain ⟨rs, hr, rfl⟩ := ed
    refine st_comp (fr := false) (subset_vs hvs) P e w h1 hL hz hr (fun P' hy k => ⟨_, _, P', sure_out hy fun v H4 fp e hv hp => k v H4 fp e hv hp (fun z => nomatch z)⟩) fun H' cs => ?_
    obtain ⟨vs, g, q1, q2, q3, q4, _⟩ := cs.ex
    exact q (.ref L) H' (L :: g) (e.trans cs.keep) (val_lst q1 q2) (.one (e.back hL) (by rw [q1]; trivial) q4 fun hi => VAll.imm _ q2 hi)
  · cases ed
theorem comp_f (hvs : ((slots T).all fun j => (own.map (·.2)).contains j) = true) {σ : L2.St} {H : Hp} {Q : VK} (h : tF X.K X.mg W (eComp (own.map (·.2)) T fi c f) σ H Q) : tLc (tI X.K X.mg W fi) (tgH X.K T) (tT X.K X.mg W0 c) (tF X.K X.mg W0 f) (own.map (·.2)) σ H Q := by
  obtain ⟨S, env, P, q⟩ := h
  refine ⟨S, env, P, q.bind.imp fun ds q J H1 fi e h1 h2 w L hL => ?_⟩
  obtain ⟨d, ed, q⟩ := Out.of q
  split at ed
  · rename_i hz
    simp only [Option.map_eq_some_iff] at ed
    obtain ⟨rs, hr, rfl⟩ := ed
    refine st_comp (fr := true) (subset_vs hvs) P e w h1 hL hz hr (fun P' hy k => ⟨_, _, P', sure_out hy fun v H4 fp e hv hn hp => k v H4 fp e hv (fun a ha => .inr (hp a ha).1) fun _ => ⟨hn, hp⟩⟩) fun H' cs => ?_
    obtain ⟨vs, g, q1, q2, q3, q4, q5⟩ := cs.ex
    obtain ⟨q6, q7⟩ := q5 rfl
    exact q (.ref L) H' (L :: g) (e.trans cs.keep) (val_lst q1 q2) (List.nodup_cons.mpr ⟨q3, q6⟩) fun a ha => by
      rcases List.mem_cons.mp ha with z | z
      · subst z; exact ⟨e.back hL, by rw [q1]; trivial⟩
      · exact q7 a z
  · cases ed
theorem dq_comp0 (hi : DI X W tg iter fi) (hN : X.N.Nodup) (ok : BlkOk X.N X.env.scope scope own)
    (hg : ∀ (s : Shared) (H : Hp) (C : Addr) (cl : List (Str × Addr)) (fp : List Addr), DG (X.blk s H scope (compEnvC scope cl C X.env) fp) tg T)
    (ht : ∀ (s : Shared) (H : Hp) (C : Addr) (cl : List (Str × Addr)) (fp : List Addr), DTs (X.blk s H scope (compEnvC scope cl C X.env) fp) W0 ifs c)
    (he : ∀ (s : Shared) (H : Hp) (C : Addr) (cl : List (Str × Addr)) (fp : List Addr), DE (X.blk s H scope (compEnvC scope cl C X.env) fp) W0 elt f)
    (hvs : ((slots T).all fun j => (own.map (·.2)).contains j) = true := by rfl) (hc : X.calm = true := by rfl) (hs : ∀ x, foldedSetIterable iter X.env x = pure x := by intro _; rfl) : DQ X W (.ListComp elt [⟨tg, iter, ifs, 0⟩] scope pos) (eComp (own.map (·.2)) T fi c f) :=
  pe_weak (pe_lc hc hN hi ok hg ht he hs) fun _ _ _ h => comp_q hvs h
theorem df_comp0 (hi : DI X W tg iter fi) (hN : X.N.Nodup) (ok : BlkOk X.N X.env.scope scope own)
    (hg : ∀ (s : Shared) (H : Hp) (C : Addr) (cl : List (Str × Addr)) (fp : List Addr), DG (X.blk s H scope (compEnvC scope cl C X.env) fp) tg T)
    (ht : ∀ (s : Shared) (H : Hp) (C : Addr) (cl : List (Str × Addr)) (fp : List Addr), DTs (X.blk s H scope (compEnvC scope cl C X.env) fp) W0 ifs c)
    (he : ∀ (s : Shared) (H : Hp) (C : Addr) (cl : List (Str × Addr)) (fp : List Addr), DF (X.blk s H scope (compEnvC scope cl C X.env) fp) W0 elt f)
    (hvs : ((slots T).all fun j => (own.map (·.2)).contains j) = true := by rfl) (hc : X.calm = true := by rfl) (hs : ∀ x, foldedSetIterable iter X.env x = pure x := by intro _; rfl) : DF X W (.ListComp elt [⟨tg, iter, ifs, 0⟩] scope pos) (eComp (own.map (·.2)) T fi c f) :=
  pe_weak (pe_lc hc hN hi ok hg ht he hs) fun _ _ _ h => comp_f hvs h
/-- y = [..] on one line -/
theorem ds_setLcF0 {i : Nat} {y : Str} {py spos : Pos} (hi : DI X W tg iter fi) (hN : X.N.Nodup) (ok : BlkOk X.N X.env.scope scope own)
    (hg : ∀ (s : Shared) (H : Hp) (C : Addr) (cl : List (Str × Addr)) (fp : List Addr), DG (X.blk s H scope (compEnvC scope cl C X.env) fp) tg T)
    (ht : ∀ (s : Shared) (H : Hp) (C : Addr) (cl : List (Str × Addr)) (fp : List Addr), DTs (X.blk s H scope (compEnvC scope cl C X.env) fp) W0 ifs c)
    (he : ∀ (s : Shared) (H : Hp) (C : Addr) (cl : List (Str × Addr)) (fp : List Addr), DF (X.blk s H scope (compEnvC scope cl C X.env) fp) W0 elt f)
    (hy : X.N[i]? = some y := by rfl) (hyl : X.env.scope.names.lookup y = some .local := by rfl) (hk : X.env.scope.kind = .function := by rfl) (hl : (py.line == pos.line) = true := by rfl) (ha : (scope.names.any fun (n, k) => n == y && (k == .local || k == .cell)) = false := by decide)
    (hvs : ((slots T).all fun j => (own.map (·.2)).contains j) = true := by rfl) (hc : X.calm = true := by rfl) (hs : ∀ x, foldedSetIterable iter X.env x = pure x := by intro _; rfl) : DS X W (.Assign [.Name y py] (.ListComp elt [⟨tg, iter, ifs, 0⟩] scope pos) spos) (sSetF i (eComp (own.map (·.2)) T fi c f)) :=
  ps_weak (ps_setLc hc hN hy hyl (sw_true hk hyl hl ha) hi ok hg ht he hs) fun D σ H ⟨Z, env, E, g⟩ => by
    have E' := E
    obtain ⟨fps, E⟩ := E
    refine comp_f hvs ⟨_, env, E.penv, (Go.out E' g).imp fun d g v H' fp e hv hn hp => ?_⟩
    split at g
    · rename_i hl
      have E2 := E.sm e
      refine g _ _ ⟨_, E2.put hl hv hn (fun a ha => ⟨E.keep.back (hp a ha).1, (hp a ha).2⟩) fun j d' _ hl' a ha z => ?_⟩
      obtain ⟨u, _, hu⟩ := E.val j d' hl'
      exact hu.gone z (hp a ha).1
    · exact g.elim
theorem ds_setLcS0 {i : Nat} {y : Str} {py spos : Pos} (hi : DI X W tg iter fi) (hN : X.N.Nodup) (ok : BlkOk X.N X.env.scope scope own)
    (hg : ∀ (s : Shared) (H : Hp) (C : Addr) (cl : List (Str × Addr)) (fp : List Addr), DG (X.blk s H scope (compEnvC scope cl C X.env) fp) tg T)
    (ht : ∀ (s : Shared) (H : Hp) (C : Addr) (cl : List (Str × Addr)) (fp : List Addr), DTs (X.blk s H scope (compEnvC scope cl C X.env) fp) W0 ifs c)
    (he : ∀ (s : Shared) (H : Hp) (C : Addr) (cl : List (Str × Addr)) (fp : List Addr), DE (X.blk s H scope (compEnvC scope cl C X.env) fp) W0 elt f)
    (hy : X.N[i]? = some y := by rfl) (hyl : X.env.scope.names.lookup y = some .local := by rfl) (hk : X.env.scope.kind = .function := by rfl) (hl : (py.line == pos.line) = true := by rfl) (ha : (scope.names.any fun (n, k) => n == y && (k == .local || k == .cell)) = false := by decide)
    (hvs : ((slots T).all fun j => (own.map (·.2)).contains j) = true := by rfl) (hc : X.calm = true := by rfl) (hs : ∀ x, foldedSetIterable iter X.env x = pure x := by intro _; rfl) : DS X W (.Assign [.Name y py] (.ListComp elt [⟨tg, iter, ifs, 0⟩] scope pos) spos) (sSetS i (eComp (own.map (·.2)) T fi c f)) :=
  ps_weak (ps_setLc hc hN hy hyl (sw_true hk hyl hl ha) hi ok hg ht he hs) fun D σ H ⟨Z, env, E, g⟩ => by
    have E' := E
    obtain ⟨fps, E⟩ := E
    refine comp_q hvs ⟨_, _, E.hide, (Go.out E' g).imp fun d g v H' fp e hv hp => ?_⟩
    split at g
    · rename_i hl
      exact g _ _ ⟨_, (E.sm e).share hl hv fun j d' _ ho => E.apart hp.prov ho⟩
    · exact g.elim
/-- all values at fp are new where the result can't be changed within -/
theorem ds_setLcT0 {i : Nat} {y : Str} {py spos : Pos} (hi : DI X W tg iter fi) (hN : X.N.Nodup) (ok : BlkOk X.N X.env.scope scope own)
    (hg : ∀ (s : Shared) (H : Hp) (C : Addr) (cl : List (Str × Addr)) (fp : List Addr), DG (X.blk s H scope (compEnvC scope cl C X.env) fp) tg T)
    (ht : ∀ (s : Shared) (H : Hp) (C : Addr) (cl : List (Str × Addr)) (fp : List Addr), DTs (X.blk s H scope (compEnvC scope cl C X.env) fp) W0 ifs c)
    (he : ∀ (s : Shared) (H : Hp) (C : Addr) (cl : List (Str × Addr)) (fp : List Addr), DE (X.blk s H scope (compEnvC scope cl C X.env) fp) W0 elt f)
    (hy : X.N[i]? = some y := by rfl) (hyl : X.env.scope.names.lookup y = some .local := by rfl) (hk : X.env.scope.kind = .function := by rfl) (hl : (py.line == pos.line) = true := by rfl) (ha : (scope.names.any fun (n, k) => n == y && (k == .local || k == .cell)) = false := by decide)
    (hvs : ((slots T).all fun j => (own.map (·.2)).contains j) = true := by rfl) (hc : X.calm = true := by rfl) (hs : ∀ x, foldedSetIterable iter X.env x = pure x := by intro _; rfl) : DS X W (.Assign [.Name y py] (.ListComp elt [⟨tg, iter, ifs, 0⟩] scope pos) spos) (sSetF i (eTop (eComp (own.map (·.2)) T fi c f))) :=
  ps_weak (ps_setLc hc hN hy hyl (sw_true hk hyl hl ha) hi ok hg ht he hs) fun D σ H ⟨Z, env, E, g⟩ => by
    have E' := E
    obtain ⟨fps, E⟩ := E
    refine comp_q hvs ⟨_, env, E.penv, (Go.out E' g).bind.imp fun d g v H' fp e hv hn => ?_⟩
    obtain ⟨d', e1, g⟩ := Out.of g
    split at e1
    · rename_i hi
      cases e1
      split at g
      · rename_i hl
        have E2 := E.sm e
        obtain ⟨n1, hp⟩ := hn.fresh hi
        refine g _ _ ⟨_, E2.put hl hv n1 (fun a ha => ⟨E.keep.back (hp a ha).1, (hp a ha).2⟩) fun j d' _ hl' a ha z => ?_⟩
        obtain ⟨u, _, hu⟩ := E.val j d' hl'
        exact hu.gone z (hp a ha).1
      · exact g.elim
    · cases e1
end
section
variable {X : Cx} {W : WX} {elt tg iter : Expr} {ifs : List Expr} {scope : Scope} {own : List (Str × Nat)} {pos : Pos} {T : Tg} {fi : En → R (List D)} {c : En → R Bool} {f : En → R D} {vs : List Nat}
theorem dq_comp (hi : DI X W tg iter fi) (hN : X.N.Nodup) (ok : BlkOk X.N X.env.scope scope own)
    (hg : ∀ (s : Shared) (H : Hp) (C : Addr) (cl : List (Str × Addr)) (fp : List Addr), DG (X.blk s H scope (compEnvC scope cl C X.env) fp) tg T)
    (ht : ∀ (s : Shared) (H : Hp) (C : Addr) (cl : List (Str × Addr)) (fp : List Addr), DTs (X.blk s H scope (compEnvC scope cl C X.env) fp) W0 ifs c)
    (he : ∀ (s : Shared) (H : Hp) (C : Addr) (cl : List (Str × Addr)) (fp : List Addr), DE (X.blk s H scope (compEnvC scope cl C X.env) fp) W0 elt f)
    (hov : own.map (·.2) = vs := by rfl) (hvs : ((slots T).all fun j => vs.contains j) = true := by rfl) (hc : X.calm = true := by rfl) (hs : ∀ x, foldedSetIterable iter X.env x = pure x := by intro _; rfl) : DQ X W (.ListComp elt [⟨tg, iter, ifs, 0⟩] scope pos) (eComp vs T fi c f) := by
  subst hov
  exact dq_comp0 (hi := hi) (hN := hN) (ok := ok) (hg := hg) (ht := ht) (he := he) (hvs := hvs) (hc := hc) (hs := hs)
theorem df_comp (hi : DI X W tg iter fi) (hN : X.N.Nodup) (ok : BlkOk X.N X.env.scope scope own)
    (hg : ∀ (s : Shared) (H : Hp) (C : Addr) (cl : List (Str × Addr)) (fp : List Addr), DG (X.blk s H scope (compEnvC scope cl C X.env) fp) tg T)
    (ht : ∀ (s : Shared) (H : Hp) (C : Addr) (cl : List (Str × Addr)) (fp : List Addr), DTs (X.blk s H scope (compEnvC scope cl C X.env) fp) W0 ifs c)
    (he : ∀ (s : Shared) (H : Hp) (C : Addr) (cl : List (Str × Addr)) (fp : List Addr), DF (X.blk s H scope (compEnvC scope cl C X.env) fp) W0 elt f)
    (hov : own.map (·.2) = vs := by rfl) (hvs : ((slots T).all fun j => vs.contains j) = true := by rfl) (hc : X.calm = true := by rfl) (hs : ∀ x, foldedSetIterable iter X.env x = pure x := by intro _; rfl) : DF X W (.ListComp elt [⟨tg, iter, ifs, 0⟩] scope pos) (eComp vs T fi c f) := by
  subst hov
  exact df_comp0 (hi := hi) (hN := hN) (ok := ok) (hg := hg) (ht := ht) (he := he) (hvs := hvs) (hc := hc) (hs := hs)
theorem ds_setLcF {i : Nat} {y : Str} {py spos : Pos} (hi : DI X W tg iter fi) (hN : X.N.Nodup) (ok : BlkOk X.N X.env.scope scope own)
    (hg : ∀ (s : Shared) (H : Hp) (C : Addr) (cl : List (Str × Addr)) (fp : List Addr), DG (X.blk s H scope (compEnvC scope cl C X.env) fp) tg T)
    (ht : ∀ (s : Shared) (H : Hp) (C : Addr) (cl : List (Str × Addr)) (fp : List Addr), DTs (X.blk s H scope (compEnvC scope cl C X.env) fp) W0 ifs c)
    (he : ∀ (s : Shared) (H : Hp) (C : Addr) (cl : List (Str × Addr)) (fp : List Addr), DF (X.blk s H scope (compEnvC scope cl C X.env) fp) W0 elt f)
    (hy : X.N[i]? = some y := by rfl) (hyl : X.env.scope.names.lookup y = some .local := by rfl) (hk : X.env.scope.kind = .function := by rfl) (hl : (py.line == pos.line) = true := by rfl) (ha : (scope.names.any fun (n, k) => n == y && (k == .local || k == .cell)) = false := by decide)
    (hov : own.map (·.2) = vs := by rfl) (hvs : ((slots T).all fun j => vs.contains j) = true := by rfl) (hc : X.calm = true := by rfl) (hs : ∀ x, foldedSetIterable iter X.env x = pure x := by intro _; rfl) : DS X W (.Assign [.Name y py] (.ListComp elt [⟨tg, iter, ifs, 0⟩] scope pos) spos) (sSetF i (eComp vs T fi c f)) := by
  subst hov
  exact ds_setLcF0 (hi := hi) (hN := hN) (ok := ok) (hg := hg) (ht := ht) (he := he) (hy := hy) (hyl := hyl) (hk := hk) (hl := hl) (ha := ha) (hvs := hvs) (hc := hc) (hs := hs)
theorem ds_setLcS {i : Nat} {y : Str} {py spos : Pos} (hi : DI X W tg iter fi) (hN : X.N.Nodup) (ok : BlkOk X.N X.env.scope scope own)
    (hg : ∀ (s : Shared) (H : Hp) (C : Addr) (cl : List (Str × Addr)) (fp : List Addr), DG (X.blk s H scope (compEnvC scope cl C X.env) fp) tg T)
    (ht : ∀ (s : Shared) (H : Hp) (C : Addr) (cl : List (Str × Addr)) (fp : List Addr), DTs (X.blk s H scope (compEnvC scope cl C X.env) fp) W0 ifs c)
    (he : ∀ (s : Shared) (H : Hp) (C : Addr) (cl : List (Str × Addr)) (fp : List Addr), DE (X.blk s H scope (compEnvC scope cl C X.env) fp) W0 elt f)
    (hy : X.N[i]? = some y := by rfl) (hyl : X.env.scope.names.lookup y = some .local := by rfl) (hk : X.env.scope.kind = .function := by rfl) (hl : (py.line == pos.line) = true := by rfl) (ha : (scope.names.any fun (n, k) => n == y && (k == .local || k == .cell)) = false := by decide)
    (hov : own.map (·.2) = vs := by rfl) (hvs : ((slots T).all fun j => vs.contains j) = true := by rfl) (hc : X.calm = true := by rfl) (hs : ∀ x, foldedSetIterable iter X.env x = pure x := by intro _; rfl) : DS X W (.Assign [.Name y py] (.ListComp elt [⟨tg, iter, ifs, 0⟩] scope pos) spos) (sSetS i (eComp vs T fi c f)) := by
  subst hov
  exact ds_setLcS0 (hi := hi) (hN := hN) (ok := ok) (hg := hg) (ht := ht) (he := he) (hy := hy) (hyl := hyl) (hk := hk) (hl := hl) (ha := ha) (hvs := hvs) (hc := hc) (hs := hs)
theorem ds_setLcT {i : Nat} {y : Str} {py spos : Pos} (hi : DI X W tg iter fi) (hN : X.N.Nodup) (ok : BlkOk X.N X.env.scope scope own)
    (hg : ∀ (s : Shared) (H : Hp) (C : Addr) (cl : List (Str × Addr)) (fp : List Addr), DG (X.blk s H scope (compEnvC scope cl C X.env) fp) tg T)
    (ht : ∀ (s : Shared) (H : Hp) (C : Addr) (cl : List (Str × Addr)) (fp : List Addr), DTs (X.blk s H scope (compEnvC scope cl C X.env) fp) W0 ifs c)
    (he : ∀ (s : Shared) (H : Hp) (C : Addr) (cl : List (Str × Addr)) (fp : List Addr), DE (X.blk s H scope (compEnvC scope cl C X.env) fp) W0 elt f)
    (hy : X.N[i]? = some y := by rfl) (hyl : X.env.scope.names.lookup y = some .local := by rfl) (hk : X.env.scope.kind = .function := by rfl) (hl : (py.line == pos.line) = true := by rfl) (ha : (scope.names.any fun (n, k) => n == y && (k == .local || k == .cell)) = false := by decide)
    (hov : own.map (·.2) = vs := by rfl) (hvs : ((slots T).all fun j => vs.contains j) = true := by rfl) (hc : X.calm = true := by rfl) (hs : ∀ x, foldedSetIterable iter X.env x = pure x := by intro _; rfl) : DS X W (.Assign [.Name y py] (.ListComp elt [⟨tg, iter, ifs, 0⟩] scope pos) spos) (sSetF i (eTop (eComp vs T fi c f))) := by
  subst hov
  exact ds_setLcT0 (hi := hi) (hN := hN) (ok := ok) (hg := hg) (ht := ht) (he := he) (hy := hy) (hyl := hyl) (hk := hk) (hl := hl) (ha := ha) (hvs := hvs) (hc := hc) (hs := hs)
end
end DL
set_option Elab.async false
set_option linter.all false
set_option maxRecDepth 100000
set_option maxHeartbeats 2000000
namespace DL
open PySem PySem.Spec PyProof.Rows L2
/-! ### defs -/
/-- what a def computes: n arguments, N its names -/
def runD (n : Nat) (m : Nat) (G : En → Fl) (ds : List D) : R D := if ds.length = n then (match G (ds.map .sh ++ List.replicate (m - n) .un) with
  | .nx _ => .ok .non
  | .rt d => .ok d
  | .ex c _ => .ex c
  | _ => .no) else .no
/-- the promise of a def that computes F -/
def spD (K : PySem.W.Frag) (mg : Str → Option Value) (n : Nat) (F : List D → R D) : Sp := fun vs H Q E => vs.length = n ∧ ∃ ds fp, VAll K mg H ds vs fp ∧ Out mg (fun cls d _ H => E cls d H) [] H (F ds) fun d => AfterF K mg H d Q
theorem VAll.fps {K : PySem.W.Frag} {mg : Str → Option Value} {H : Hp} : ∀ {ds : List D} {vs : List V} {fp : List Addr}, VAll K mg H ds vs fp → ∃ fps : Nat → List Addr, ∀ i d, ds[i]? = some d → ∃ v, vs[i]? = some v ∧ Val K mg H d v (fps i)
  | [], vs, fp, h => ⟨fun _ => [], fun i d z => by simp at z⟩
  | d :: ds, vs, fp, h => by
    simp only [VAll] at h
    obtain ⟨v, vr, f, g, ev, ef, h1, h2⟩ := h
    obtain ⟨fps, q⟩ := VAll.fps h2
    refine ⟨fun i => match i with | 0 => f | i + 1 => fps i, fun i e he => ?_⟩
    cases i with
    | zero =>
      simp only [List.getElem?_cons_zero, Option.some.injEq] at he
      subst he
      exact ⟨v, by rw [ev]; rfl, h1⟩
    | succ i =>
      simp only [List.getElem?_cons_succ] at he
      obtain ⟨u, q1, q2⟩ := q i e he
      exact ⟨u, by rw [ev]; exact q1, q2⟩
theorem start_eo {K : PySem.W.Frag} {mg : Str → Option Value} {H : Hp} {ds : List D} {vs : List V} {fp : List Addr} {N : List Str} (h : VAll K mg H ds vs fp) : EO K mg H (ds.map .sh ++ List.replicate (N.length - ds.length) .un) (start N vs) H := by
  obtain ⟨fps, q⟩ := h.fps
  have hl := h.length
  refine ⟨fps, by simp [L2.start, hl], fun i d hd => ?_, fun i d hd => ?_, Sm.refl H⟩
  · unfold look at hd
    by_cases c : i < ds.length
    · rw [List.getElem?_append_left (by simpa using c), List.getElem?_map, List.getElem?_eq_getElem c] at hd
      simp only [Option.map_some, Option.bind_some, Sl.val, Option.some.injEq] at hd
      obtain ⟨v, q1, q2⟩ := q i d (by rw [List.getElem?_eq_getElem c, hd])
      refine ⟨v, ?_, q2⟩
      unfold L2.start
      rw [List.getElem?_append_left (by simpa [hl] using c), List.getElem?_map, q1]; rfl
    · rw [List.getElem?_append_right (by simpa using c), List.getElem?_replicate] at hd
      split at hd <;> simp [Sl.val] at hd
  · by_cases c : i < ds.length
    · rw [List.getElem?_append_left (by simpa using c), List.getElem?_map, List.getElem?_eq_getElem c] at hd
      cases hd
    · rw [List.getElem?_append_right (by simpa using c), List.getElem?_replicate] at hd
      split at hd <;> cases hd
section
variable {P : Program} {w : World} {K : PySem.W.Frag} {mg : Str → Option Value} {base : Heap}
/-- a def by its body -/
theorem okD {x qual : Str} {st : Stmt} {f : Addr} {fd : FuncData} {N ps : List Str} {k n : Nat} {G : En → Fl} (F : Fun K x qual st f fd) (S : FnScope N ps (defScope st)) (hn : ps.length = n)
    (body : ∀ (cdv : Value) (A : Around) (outer : List Env) (s : Shared) (H : Hp) (E : XK), Room k (A.deeper (envOfC qual (defScope st) s.heap.objs.size f cdv)) → Takes (cxOf (L2.CX P w) P w K mg base N qual (defScope st) f cdv A outer s H E) (fun cls d _ H => E cls d H) →
      DSs (cxOf (L2.CX P w) P w K mg base N qual (defScope st) f cdv A outer s H E) (fun cls d _ H => E cls d H) (defBody st) G) :
    FnOk P w K mg base (L2.CX P w) (k + 1) f fd ps (spD K mg n (runD n N.length G)) := by
  subst hn
  refine F.okX S (fun vs H Q E h => h.1) fun cdv A outer s H vs Q E hr h => ⟨_, body cdv A outer s H E hr (takes_of rfl rfl rfl rfl), ?_⟩
  obtain ⟨hl, ds, fp, hv, q⟩ := h
  refine ⟨H, _, start_eo hv, ?_⟩
  unfold runD at q
  have hd : ds.length = ps.length := hv.length.symm.trans hl
  rw [if_pos hd] at q
  rw [← hd] at q
  show Go K mg _ H _ (G (ds.map .sh ++ List.replicate (N.length - ds.length) .un))
  cases e : G (ds.map .sh ++ List.replicate (N.length - ds.length) .un) with
  | nx e' =>
    rw [e] at q
    exact fun σ' H' E' => q .non H' [] (let ⟨_, z⟩ := E'; z.keep) val_non List.nodup_nil nf
  | rt d => rw [e] at q; exact q
  | bk e' => rw [e] at q; exact q.elim
  | ct e' => rw [e] at q; exact q.elim
  | ex c e' => rw [e] at q; exact fun C σ' H' m E' => q C H' m (let ⟨_, z⟩ := E'; z.keep)
  | no => rw [e] at q; exact q
end
/-! ### calls -/
def eCallF (n : Nat) (F : List D → R D) (g : En → R (List D)) (env : En) : R D := g env >>= fun ds => if ds.length = n then F ds else .no
section
variable {X : Cx} {W : WX} {k n : Nat} {f : Addr} {fd : FuncData} {ps : List Str} {F : List D → R D} {x : Str} {p pos : Pos} {e : Expr} {es : List Expr} {g : En → R (List D)}
theorem df_callF (G : FnOk X.prog X.w X.K X.mg X.base (L2.CX X.prog X.w) k f fd ps (spD X.K X.mg n F)) (hr : Room k X.A) (hm : X.mg x = some (.ref f)) (hk : PySem.W.keepIn X.K (.ref f) = true) (hb : Binds X.K fd ps []) (tk : Takes X W)
    (ha : DA X W (e :: es) g) (hg : Gl X x := by rfl) (hdb : (x == ("__debug__" : Str)) = false := by decide) (he : starEach (e :: es) X.env = (false, eval e X.env) :: starEach es X.env := by rfl) (hpl : (backTo pos (starEach es X.env)).any (·.1) = false := by rfl) :
    DF X W (.Call (.Name x p) (e :: es) [] pos) (eCallF n F g) :=
  pe_weak (pe_callS G hr hg hm hk hb (fun σ => passAt tk σ) ha hdb he hpl) fun σ H Q ⟨S, env, P, q⟩ => by
    refine stA P q fun ds vs H1 fp e hv hp q => ?_
    split at q
    · rename_i hl
      refine ⟨by rw [hv.length, hl], ds, fp, hv, ?_⟩
      cases r : F ds with
      | ok d => rw [r] at q; exact fun v H' f' e' hv' hn' hp' => q v H' f' (e.trans e') hv' hn' fun a ha => ⟨e.back (hp' a ha).1, (hp' a ha).2⟩
      | ex c => rw [r] at q; exact fun C H' m e' => q C H' m e'
      | no => rw [r] at q; exact q
    · exact q.elim
end
end DL
set_option Elab.async false
set_option linter.all false
set_option maxRecDepth 100000
set_option maxHeartbeats 2000000
namespace DL
open PySem PySem.Spec PyProof.Rows L2
/-! ### a, b = e -/
def sPut (T : Tg) (d : D) (env : En) : Fl := match put T d env with
  | some e => .nx e
  | none => .no
/-- e's value new -/
def sPutF (T : Tg) (f : En → R D) (env : En) : Fl := onE (f env) env fun d => sPut T d env
/-- e of shared values alone -/
def sPutS (T : Tg) (f : En → R D) (env : En) : Fl := onE (f (env.map hideS)) env fun d => sPut T d env
section
variable {X : Cx} {W : WX} {pos : Pos} {tg e : Expr} {T : Tg} {f : En → R D}
theorem ds_putF (h : DF X W e f) (hg : DG X tg T) (hs : swapsWithSole [tg] e pos.line X.env = pure false := by rfl) (hw : swappedStores [tg] e X.env = pure none := by rfl)
    (h1 : (assignEach [tg] X.env).map (·.2) = [assign tg X.env] := by rfl) : DS X W (.Assign [tg] e pos) (sPutF T f) := ps_weak (ps_asg h hg hs hw h1) fun D σ H ⟨Z, env, E, g⟩ => by
  have E' := E
  obtain ⟨fps, E⟩ := E
  refine ⟨_, env, E.penv, (Go.out E' g).imp fun d g v H' fp e hv hn hp => ?_⟩
  unfold sPut at g
  split at g
  · rename_i e1 he1
    refine tg_er T he1 (E.sm e) hv (fun j d' ho a ha z => ?_) fun σ2 fps2 E2 _ => g _ _ ⟨_, E2⟩
    obtain ⟨u, _, hu⟩ := E.val j d' (look_ow ho)
    exact hu.gone ha (hp a z).1
  · exact g.elim
theorem ds_putS (h : DE X W e f) (hg : DG X tg T) (hs : swapsWithSole [tg] e pos.line X.env = pure false := by rfl) (hw : swappedStores [tg] e X.env = pure none := by rfl)
    (h1 : (assignEach [tg] X.env).map (·.2) = [assign tg X.env] := by rfl) : DS X W (.Assign [tg] e pos) (sPutS T f) := ps_weak (ps_asg h hg hs hw h1) fun D σ H ⟨Z, env, E, g⟩ => by
  have E' := E
  obtain ⟨fps, E⟩ := E
  refine ⟨_, _, E.hide, (Go.out E' g).imp fun d g v H' fp e hv hp => ?_⟩
  unfold sPut at g
  split at g
  · rename_i e1 he1
    exact tg_er T he1 (E.sm e) hv (fun j d' ho => E.apart hp ho) fun σ2 fps2 E2 _ => g _ _ ⟨_, E2⟩
  · exact g.elim
/-! ### x, y = a, b -/
def sPar (i j : Nat) (f : En → R (List D)) (env : En) : Fl := onE (f (env.map hideS)) env fun ds => match ds with
  | [d1, d2] => if i < env.length ∧ j < env.length ∧ i ≠ j then .nx ((env.set i (.sh d1)).set j (.sh d2)) else .no
  | _ => .no
theorem ds_par {i j : Nat} {x y : Str} {a b : Expr} {px py pt : Pos} {kt k2 pt2} {f : En → R (List D)} (ha : DA X W [a, b] f) (hN : X.N.Nodup) (hi : X.N[i]? = some x := by rfl) (hj : X.N[j]? = some y := by rfl) (hij : i ≠ j := by decide)
    (hx : X.env.scope.names.lookup x = some .local := by rfl) (hy : X.env.scope.names.lookup y = some .local := by rfl)
    (hw : swappedStores [.Tuple [.Name x px, .Name y py] kt pt] (.Tuple [a, b] k2 pt2) X.env = pure (some [x, y]) := by rfl) (hc : X.calm = true := by rfl)
    (hs : swapsWithSole [.Tuple [.Name x px, .Name y py] kt pt] (.Tuple [a, b] k2 pt2) pos.line X.env = pure false := by rfl) :
    DS X W (.Assign [.Tuple [.Name x px, .Name y py] kt pt] (.Tuple [a, b] k2 pt2) pos) (sPar i j f) := ps_weak (ps_par hc hN hi hj hij hx hy ha hw hs) fun D σ H ⟨Z, env, E, g⟩ => by
  have E' := E
  obtain ⟨fps, E⟩ := E
  refine ⟨_, _, E.hide, (Go.out E' g).imp fun ds g vs H' fp e hv hp => ?_⟩
  split at g
  · rename_i d1 d2
    split at g
    · rename_i hl
      obtain ⟨v, v2, f1, f2, ev, ef, h1, h2⟩ := hv.inv2
      have ap : ∀ j d', env[j]? = some (Sl.ow d') → ∀ a ∈ fps j, a ∉ fp := fun j d' ho => E.apart hp ho
      refine ⟨v, v2, ev, g _ _ ⟨_, ((E.sm e).share hl.1 h1 fun k d' _ ho a ha z => ap k d' ho a ha ?_).share (by simpa using hl.2.1) h2 fun k d' hk ho a ha z => ?_⟩⟩
      · rw [ef]; exact List.mem_append_left _ z
      · by_cases c : k = i
        · subst c; rw [List.getElem?_set_self hl.1] at ho; cases ho
        · rw [List.getElem?_set_ne (Ne.symm c)] at ho
          simp only [c, if_false] at ha
          exact ap k d' ho a ha (by rw [ef]; exact List.mem_append_right _ z)
    · exact g.elim
  · exact g.elim
/-! ### x op= e with numbers -/
def sAug (i : Nat) (F : Int → Int → Option Int) (f : En → R D) (env : En) : Fl := match look env i with
  | some (.int a) => onE (f env) env fun d => match d with
    | .int b => match F a b with
      | some z => .nx (env.set i (.ow (.int z)))
      | none => .no
    | _ => .no
  | _ => .no
def tipI (F : Int → Int → Option Int) : TIp := fun x y H Q => ∃ a b z, x = .int a ∧ y = .int b ∧ F a b = some z ∧ Q (.int z) H
theorem ds_aug {i : Nat} {x : Str} {op : Operator} {F : Int → Int → Option Int} {pos' : Pos} (ho : PIp X op (tipI F)) (h : DE X W e f) (hN : X.N.Nodup) (hi : X.N[i]? = some x := by rfl) (hx : Loc X.env.scope x := by first | exact Or.inl rfl | exact Or.inr rfl)
    (hf : X.fn x = true ∨ X.env.scope.names.lookup x = some .local := by first | exact .inl rfl | exact .inr rfl | assumption) : DS X W (.AugAssign (.Name x pos') op e pos) (sAug i F f) := ps_weak (ps_aug hN hi hx h ho hf) fun D σ H ⟨Z, env, E, g⟩ => by
  have E' := E
  obtain ⟨fps, E⟩ := E
  unfold sAug at g
  split at g
  · rename_i a ha
    obtain ⟨v, h1, h2⟩ := E.val i _ ha
    simp only [Val] at h2
    refine ⟨v, h1, _, env, E.penv, (Go.out E' g).imp fun d g u H' fp e hv hp => ?_⟩
    split at g
    · rename_i b
      split at g
      · rename_i z hz
        simp only [Val] at hv
        exact ⟨a, b, z, h2.1, hv.1, hz, g _ _ ⟨_, (E.sm e).put (look_lt ha) val_int List.nodup_nil nf fun _ _ _ _ => nf⟩⟩
      · exact g.elim
    · exact g.elim
  · exact g.elim
end
/-! ### try -/
def sTry (cat : List (Str × Bool)) (F G : En → Fl) (env : En) : Fl := match F env with
  | .ex x e => match cat.lookup x with
    | some true => G e
    | some false => .ex x e
    | none => .no
  | r => r
theorem lookup_mem {cat : List (Str × Bool)} {x : Str} {b : Bool} (h : cat.lookup x = some b) : (x, b) ∈ cat := by
  induction cat with
  | nil => cases h
  | cons p r ih =>
    obtain ⟨y, c⟩ := p
    simp only [List.lookup] at h
    split at h
    · rename_i q
      have : x = y := by simpa using q
      subst this
      cases h
      exact List.mem_cons_self
    · exact List.mem_cons_of_mem _ (ih h)
theorem ds_try {X : Cx} {W : WX} {x : Str} {c : Value} {body suite : List Stmt} {b₀ : Stmt} {np pos pos' : Pos} {F G : En → Fl} {cat : List (Str × Bool)} (hs : X.stack = X.env :: X.outer) (hf : X.env.frame = some X.env.locals) (hc : Names X x c) (tk : Takes X W)
    (hcat : ∀ p ∈ cat, ∀ C, X.mg p.1 = some (.ref C) → PySem.W.exmOne X.K (.ref C) c = some p.2)
    (hb : ∀ (W : WX) (pn : List (Addr × Obj)) (xe : Value → Shared → Prop), Takes (X.tr pn xe) W → PassesOwn (model X.prog X.w) X.A X.env xe → DSs (X.tr pn xe) W body F)
    (hsu : ∀ (a : Addr) (oe : Obj) (cls : Value) (d : Option Addr) (pn : List (Addr × Obj)), DSs (X.suite a ((a, oe) :: pn)) W (b₀ :: suite) G) :
    DS X W (.Try body [.ExceptHandler (some (.Name x np)) none (b₀ :: suite) pos'] [] [] pos) (sTry cat F G) :=
  ps_weak (ps_try_only (ts := fun _ _ _ => tS X.K X.mg W G) (tb := fun W => tS X.K X.mg W F) hs hf hc tk hb fun a oe cls d pn _ _ => hsu a oe cls d pn) fun D σ H ⟨Z, env, E, g⟩ => by
    refine ⟨Z, env, E, ?_⟩
    unfold sTry at g
    cases q : F env with
    | nx e => rw [q] at g; exact g
    | rt d => rw [q] at g; exact g
    | bk e => rw [q] at g; exact g
    | ct e => rw [q] at g; exact g
    | no => rw [q] at g; exact g
    | ex y e =>
      rw [q] at g
      simp only at g
      intro C σ' H' m E1
      cases l : cat.lookup y with
      | none => rw [l] at g; exact g.elim
      | some b =>
        rw [l] at g
        refine ⟨b, hcat _ (lookup_mem l) C m, fun hb a ha => ?_, fun hb => ?_⟩
        · subst hb
          exact ⟨Z, e, E1, g⟩
        · subst hb
          exact g C σ' H' m E1
end DL
set_option Elab.async false
set_option linter.all false
set_option maxRecDepth 100000
set_option maxHeartbeats 2000000
namespace DL
open PySem PySem.Spec PyProof.Rows L2
/-! ### sorted -/
def insD {α : Type} (le : α → α → Bool) (a : α) : List α → List α
  | [] => [a]
  | b :: l => if le a b = true then a :: b :: l else b :: insD le a l
def isort {α : Type} (le : α → α → Bool) : List α → List α
  | [] => []
  | a :: l => insD le a (isort le l)
theorem insD_split {α : Type} {le : α → α → Bool} {a : α} : ∀ {l1 l2 : List α}, (∀ b ∈ l1, le a b = false) → (∀ b ∈ l2, le a b = true) → insD le a (l1 ++ l2) = l1 ++ a :: l2
  | [], [], _, _ => rfl
  | [], b :: l, _, h => by simp only [List.nil_append, insD]; rw [if_pos (h b List.mem_cons_self)]
  | b :: l1, l2, h1, h2 => by
    simp only [List.cons_append, insD]
    rw [if_neg (by rw [h1 b List.mem_cons_self]; decide), insD_split (fun c hc => h1 c (List.mem_cons_of_mem _ hc)) h2]
theorem isort_eq {α : Type} {le : α → α → Bool} (tr : ∀ a b c, le a b = true → le b c = true → le a c = true) (tot : ∀ a b, (le a b || le b a) = true) : ∀ l : List α, l.mergeSort le = isort le l
  | [] => by simp [isort]
  | a :: l => by
    obtain ⟨l1, l2, h1, h2, h3⟩ := List.mergeSort_cons (le := le) (fun a b c => tr a b c) (fun a b => tot a b) a l
    have s := List.pairwise_mergeSort (le := le) (fun a b c => tr a b c) (fun a b => tot a b) (a :: l)
    rw [h1] at s
    rw [h1, isort, ← isort_eq tr tot l, h2]
    refine (insD_split (fun b hb => by simpa using h3 b hb) fun b hb => ?_).symm
    have := (List.pairwise_append.mp s).2.1
    exact (List.pairwise_cons.mp this).1 b hb
def leS (a b : D) : Bool := !PySem.W.dataLt (toPy b) (toPy a)
/-- no None, no tuples; or tuples with an item at least -/
def sorty (ds : List D) : Bool := (ds.all fun d => match toPy d with | .tuple (_ :: _) => true | _ => false) || (ds.all fun d => match toPy d with | .none => false | .tuple _ => false | _ => true)
def sortOk (ds : List D) : Bool := plainAll ds && sorty ds && ds.all (fun d => ds.all fun e => PySem.W.alike (toPy d) (toPy e)) && ds.all fun d => decide ((toPy d).depth ≤ 40)
def sortF : List D → Option D
  | [d] => (items d).bind fun ds => if sortOk ds = true then some (.lst (isort leS ds)) else none
  | _ => none
theorem plain_mem : ∀ {ds : List D} {d : D}, plainAll ds = true → d ∈ ds → plain d = true
  | e :: ds, d, h, m => by
    simp only [plainAll, Bool.and_eq_true] at h
    rcases List.mem_cons.mp m with rfl | m
    · exact h.1
    · exact plain_mem h.2 m
theorem isort_perm {α : Type} {le : α → α → Bool} : ∀ l : List α, (isort le l).Perm l
  | [] => .nil
  | a :: l => by
    have ip : ∀ l : List α, (insD le a l).Perm (a :: l) := fun l => by
      induction l with
      | nil => exact .refl _
      | cons b l ih =>
        unfold insD
        split
        · exact .refl _
        · exact (List.Perm.cons b ih).trans (.swap _ _ _)
    exact (ip _).trans (.cons a (isort_perm l))
section
variable {K : PySem.W.Frag} {mg : Str → Option Value} {H : Hp}
/-- values by their places -/
theorem VAll.of_zip {fp : List Addr} : ∀ {l : List (V × D)}, (∀ p ∈ l, ∃ f, Val K mg H p.2 p.1 f ∧ ∀ b ∈ f, b ∈ fp) → ∃ g, VAll K mg H (l.map (·.2)) (l.map (·.1)) g ∧ ∀ b ∈ g, b ∈ fp
  | [], _ => ⟨[], VAll.nil, nf⟩
  | p :: l, h => by
    obtain ⟨f, h1, h2⟩ := h p List.mem_cons_self
    obtain ⟨g, h3, h4⟩ := VAll.of_zip (l := l) fun q hq => h q (List.mem_cons_of_mem _ hq)
    exact ⟨f ++ g, VAll.cons h1 h3, fun b hb => (List.mem_append.mp hb).elim (h2 b) (h4 b)⟩
theorem VAll.zip_mem {fp : List Addr} : ∀ {ds : List D} {vs : List V} {f : List Addr}, VAll K mg H ds vs f → (∀ b ∈ f, b ∈ fp) → ∀ p ∈ vs.zip ds, ∃ f, Val K mg H p.2 p.1 f ∧ ∀ b ∈ f, b ∈ fp
  | [], vs, f, h, hf, p, hp => by simp at hp
  | d :: ds, vs, f, h, hf, p, hp => by
    simp only [VAll] at h
    obtain ⟨v, vr, g1, g2, ev, ef, h1, h2⟩ := h
    subst ev
    rcases List.mem_cons.mp hp with z | z
    · subst z
      exact ⟨g1, h1, fun b hb => hf b (by rw [ef]; exact List.mem_append_left _ hb)⟩
    · exact VAll.zip_mem h2 (fun b hb => hf b (by rw [ef]; exact List.mem_append_right _ hb)) p z
end
theorem imm_all : ∀ {ds : List D}, immAll ds = true ↔ ∀ d ∈ ds, imm d = true
  | [] => by simp [immAll]
  | d :: ds => by simp only [immAll, Bool.and_eq_true, imm_all (ds := ds), List.mem_cons, forall_eq_or_imp]
theorem sort_each {its : List Value} {vs : List V} {ds : List D} (r : Vals vs its) (hl : vs.length = ds.length) : PySem.W.EachIs (fun u (p : V × D) => RelV p.1 u) its (vs.zip ds) := by
  induction r generalizing ds with
  | nil => cases ds <;> first | exact .nil | simp at hl
  | cons h t ih =>
    cases ds with
    | nil => simp at hl
    | cons d ds => exact .cons h (ih (by simpa using hl))
theorem vals_each {its : List Value} {l : List (V × D)} (e : PySem.W.EachIs (fun u (p : V × D) => RelV p.1 u) its l) : Vals (l.map (·.1)) its := by
  induction e with
  | nil => exact .nil
  | cons h t ih => exact .cons h ih
section
variable {X : Cx}
theorem cr_sortedD (hu : X.A.units + 64 < cLine) : CallR X (.builtin "sorted") (rCD X.K X.mg sortF) := by
  intro pins s σ H xs us Q I r ⟨ds0, fp, hv, d, e, q⟩
  match ds0, e with
  | [d0], e =>
    simp only [sortF, Option.bind_eq_some_iff] at e
    obtain ⟨ds, e1, e⟩ := e
    split at e
    · rename_i hok
      cases e
      obtain ⟨v, exs, hv1⟩ := hv.inv1; clear hv; subst exs; have hv := hv1; clear hv1
      obtain ⟨a, vs, f, ex, hsq, hv', hf⟩ := hv.seq e1
      subst ex
      rw [Vals.ref1 r]
      simp only [sortOk, Bool.and_eq_true] at hok
      obtain ⟨⟨⟨ok1, ok2⟩, ok3⟩, ok4⟩ := hok
      -- the items
      obtain ⟨its, T, o, n, rv, hT, ho, hcl, hd, hz⟩ : ∃ (its : List Value) (T : String) (o : Obj) (n : Nat), Vals vs its ∧ (T = "list" ∨ T = "tuple") ∧ s.heap.get? a = some o ∧ o.cls = .type T ∧ o.data = .seq its.toArray n ∧ vs.length ≤ sizeLine := by
        rcases hsq with h | h
        · obtain ⟨its, rv, pl, hz⟩ := I.list h
          obtain ⟨o, ho, hc, n, hd⟩ := pl.isList
          exact ⟨its, "list", o, n, rv, .inl rfl, ho, hc, hd, hz⟩
        · obtain ⟨its, rv, pl, hz⟩ := I.tuple h
          obtain ⟨o, ho, hc, n, hd⟩ := pl
          exact ⟨its, "tuple", o, n, rv, .inr rfl, ho, hc, hd, hz⟩
      have hlen := hv'.length
      have hle : its.length ≤ sizeLine := by rw [← rv.length]; exact hz
      refine Calls.call_function_entry kind_sorted plain_sorted entry_sorted (args_sorted1 _) ?_
      unfold Builtin.«sorted»
      refine wpAny_bind (m := checkCount "sorted" 1 1 _) (wpAny_pure ?_)
      refine wpAny_bind (wpAny_collect_seq a hT ho hcl hd (fun h' hk => ?_) (by simpa using hle))
      have I1 : Inv X pins σ H { s with heap := h' } := I.kept (t' := s.toks) hk
      have I2 : Inv X pins σ H { s with heap := h'.push (seqObj "list" its.toArray 0) } := I1.kept (t' := s.toks) fun b u e => Heap.get?_push_of_some _ e
      refine wpAny_bind (wpAny_newList ?_ hle)
      have hoL : (h'.push (seqObj "list" its.toArray 0)).get? h'.objs.size = some (seqObj "list" its.toArray 0) := Heap.get?_push_size _ rfl
      have ee := sort_each rv hlen
      have er : PySem.W.EachIs (fun u (p : V × D) => ∃ as, Reads (PySem.W.sortingHeap (h'.push (seqObj "list" its.toArray 0)) h'.objs.size its) u (toPy p.2) as) its (vs.zip ds) := by
        refine (PySem.W.each_mem ee).mono fun u p ⟨h1, h2⟩ => ?_
        obtain ⟨f1, h3, _⟩ := VAll.zip_mem hv' hf p h2
        obtain ⟨as, h4⟩ := Dp.reads I1 _ _ _ (Val.dp _ h3 (plain_mem ok1 (List.of_mem_zip h2).2)) h1
        exact ⟨as, PyProof.Rows.Reads.keeps (fun b o e => PySem.W.sortingHeap_old (Nat.ne_of_lt (Heap.lt_size e)) (Heap.get?_push_of_some _ e)) h4⟩
      have hsnd : (vs.zip ds).map (·.2) = ds := List.map_snd_zip (by omega)
      have hmap : (vs.zip ds).map (fun p => toPy p.2) = ds.map toPy := by
        have q := congrArg (List.map toPy) hsnd
        rw [List.map_map] at q
        exact q
      have hal : PySem.W.AllAlike ((vs.zip ds).map fun p => toPy p.2) := by
        rw [hmap]
        intro x hx y hy
        obtain ⟨dx, mx, rfl⟩ := List.mem_map.mp hx
        obtain ⟨dy, my, rfl⟩ := List.mem_map.mp hy
        exact List.all_eq_true.mp (List.all_eq_true.mp ok3 dx mx) dy my
      have hk : PySem.W.Sortable ((vs.zip ds).map fun p => toPy p.2) := by
        rw [hmap]
        simp only [sorty, Bool.or_eq_true, List.all_eq_true] at ok2
        rcases ok2 with h | h
        · refine .inl fun x hx => ?_
          obtain ⟨dx, mx, rfl⟩ := List.mem_map.mp hx
          have := h dx mx
          split at this
          · rename_i z r e
            exact ⟨z, r, e⟩
          · cases this
        · refine .inr fun x hx => ?_
          obtain ⟨dx, mx, rfl⟩ := List.mem_map.mp hx
          have := h dx mx
          refine ⟨fun z => ?_, fun ys z => ?_⟩ <;> rw [z] at this <;> cases this
      have hb : ∀ p, p ∈ vs.zip ds → X.A.units + 2 + (toPy p.2).depth < cLine := fun p hp => by
        have := List.all_eq_true.mp ok4 p.2 (List.of_mem_zip hp).2
        have := of_decide_eq_true this
        omega
      have fin := PySem.W.sortVals_data false ee er hal
      have L1 : ((vs.zip ds).mergeSort (PySem.W.dataLe false fun p => toPy p.2)).map (·.2) = isort leS ds := by
        refine (List.map_mergeSort (r := PySem.W.dataLe false fun p => toPy p.2) (s := leS) (f := Prod.snd) (l := vs.zip ds) (fun a _ b _ => rfl)).trans ?_
        rw [show List.map Prod.snd (vs.zip ds) = ds from hsnd]
        exact isort_eq (fun a b c => (PySem.W.sortLe_total (PyProof.Rows.listOrd PyProof.Rows.itemOrd) false fun d => PySem.W.keyToks (toPy d)).trans a b c) (fun a b => by have := (PySem.W.sortLe_total (PyProof.Rows.listOrd PyProof.Rows.itemOrd) false fun d => PySem.W.keyToks (toPy d)).total a b; exact Bool.or_eq_true_iff.mpr this) ds
      have L2 := vals_each fin
      obtain ⟨g, hg1, hg2⟩ := VAll.of_zip (K := X.K) (mg := X.mg) (H := H) (fp := fp) (l := (vs.zip ds).mergeSort (PySem.W.dataLe false fun p => toPy p.2)) fun p hp => VAll.zip_mem hv' hf p ((List.mergeSort_perm _ _).mem_iff.mp hp)
      rw [L1] at hg1
      refine wpAny_bind (wpAny_holding (wpAny_call_entry slot_list_sort ⟨_, hoL, rfl⟩ entry_list_sort (PySem.W.list_sort_vals (κ := PySem.W.dataKind (PySem.W.sortingHeap (h'.push (seqObj "list" its.toArray 0)) h'.objs.size its) ((vs.zip ds).map fun p => toPy p.2)) hoL
        (PySem.W.SortsAt.data (s := { s with heap := PySem.W.sortingHeap (h'.push (seqObj "list" its.toArray 0)) h'.objs.size its }) (PySem.W.each_map (R := fun v d => ∃ as, Reads (PySem.W.sortingHeap (h'.push (seqObj "list" its.toArray 0)) h'.objs.size its) v d as) (fun (p : V × D) => toPy p.2) er) hal hk (PySem.W.bound_map hb)) hle ⟨.none, rfl, ?_⟩) (args_list_sort _)))
      obtain ⟨ep, he⟩ := sortedHeap_at (a := h'.objs.size) (vs := its) (out := (PySem.W.sortVals (PySem.W.dataKind (PySem.W.sortingHeap (h'.push (seqObj "list" its.toArray 0)) h'.objs.size its) ((vs.zip ds).map fun p => toPy p.2)) false its its).toArray) hoL
      refine wpAny_pure ⟨_, rfl, .ref h'.objs.size, _, I1.laid (t' := s.toks) (o := .lst (((vs.zip ds).mergeSort (PySem.W.dataLe false fun p => toPy p.2)).map (·.1))) (fun b o e => ?_) (Nat.le_refl _) ⟨?_, _, ep, L2, he⟩, rfl,
        q _ _ (h'.objs.size :: g) (Sm.new (I1.hok.fresh (Nat.le_refl _))) (val_lst upd_same (hg1.sm (Sm.new (I1.hok.fresh (Nat.le_refl _))))) (.one (I1.hok.fresh (Nat.le_refl _)) mut_new (fun b hb => .inl (hg2 b hb)) fun hi => VAll.imm _ hg1 hi)⟩
      · have hlt := Heap.lt_size e
        rw [sortedHeap_old (Nat.ne_of_lt hlt) (by rw [Heap.size_push]; exact Nat.lt_succ_of_lt hlt)]
        exact Heap.get?_push_of_some _ e
      · rw [List.length_map, (List.mergeSort_perm _ _).length_eq, List.length_zip]
        omega
    · cases e
  | [], e => simp [sortF] at e
  | _ :: _ :: _, e => simp [sortF] at e
end
end DL
set_option Elab.async false
set_option linter.all false
set_option maxRecDepth 100000
set_option maxHeartbeats 2000000
namespace DL
open PySem PySem.Spec PyProof.Rows L2
section
variable {prog : Program} {w : World} {A : Around} {E : Value → Shared → Prop} {s : Shared}
theorem fm_congr {α β : Type} {f : α → Option β} {g : α → β} : ∀ {l : List α}, (∀ a ∈ l, f a = some (g a)) → l.filterMap f = l.map g
  | [], _ => rfl
  | a :: l, h => by
    rw [List.filterMap_cons_some (h a List.mem_cons_self), fm_congr fun b hb => h b (List.mem_cons_of_mem _ hb)]
    rfl
theorem pick_rev (xs : Array Value) : ((List.range xs.size).filterMap fun (k : Nat) => xs[((xs.size : Int) - 1 + (k : Int) * (-1)).toNat]?).toArray = xs.toList.reverse.toArray := by
  congr 1
  refine List.ext_getElem? fun i => ?_
  have e : (List.range xs.size).filterMap (fun (k : Nat) => xs[((xs.size : Int) - 1 + (k : Int) * (-1)).toNat]?) = (List.range xs.size).map fun k => xs.toList.reverse.getD k .none := by
    refine fm_congr fun k hk => ?_
    rw [List.mem_range] at hk
    have : ((xs.size : Int) - 1 + (k : Int) * (-1)).toNat = xs.size - 1 - k := by omega
    rw [this]
    rw [List.getD_eq_getElem?_getD, List.getElem?_reverse (by simpa using hk), Array.getElem?_toList, Array.length_toList]
    rw [Array.getElem?_eq_getElem (by omega)]
    rfl
  rw [e, List.getElem?_map]
  by_cases c : i < xs.size
  · rw [List.getElem?_range c]
    simp only [Option.map_some, List.getD_eq_getElem?_getD]
    rw [List.getElem?_eq_getElem (by simpa using c)]
    rfl
  · rw [List.getElem?_eq_none (by simpa using c), List.getElem?_eq_none (by simpa using c)]
    rfl
theorem getItem_tuple_rev {t sl : Addr} {items : Array Value} {vl vu vs : Value} {Q : Value → Shared → Prop} (ht : IsTup s.heap t items) (hs : s.heap.IsSliceOf sl vl vu vs) (pl : IsPart vl none) (pu : IsPart vu none) (ps : IsPart vs (some (-1)))
    (h : Q (.ref s.heap.objs.size) { s with heap := s.heap.push { cls := .type "tuple", data := .seq items.toList.reverse.toArray } })
    (hsz : items.size ≤ sizeLine) : wpAny (model prog w) A (getItem (.ref t) (.ref sl)) Q E s := by
  have htake : sizeOk (.seq items.toList.reverse.toArray) := by
    show items.toList.reverse.toArray.size ≤ sizeLine
    rw [List.size_toArray, List.length_reverse, Array.length_toList]
    exact hsz
  obtain ⟨os, hos, hcs, hds⟩ := id hs
  have hTs : s.TypeIs (.ref sl) "slice" := ⟨os, hos, hcs⟩
  unfold getItem
  try with_reducible refine wpAny_holding ?_
  first | refine wpAny_bind (wpAny_pure ?_) | skip
  refine wpAny_bind (wpAny_sequenceKey ht.typeIs (by decide) ?_)
  refine wpAny_bind (wpAny_callSpecial?_slot (name := Str.ofString "__getitem__") ht.typeIs PyProof.Rows.slot_tuple_getitem
    (wpAny_call_entry PyProof.Rows.slot_tuple_getitem ht.typeIs entry_tuple_getitem ?_ (args_tuple_getitem _ _)))
  show wpAny _ _ (Builtin.Tuple.tupleItemsOf (.ref t) >>= _) _ _ s
  refine wpAny_bind (tupleItemsOf_ ht ?_)
  refine wpAny_bind (wpAny_typeOf hTs ?_)
  rw [if_pos (by decide)]
  have app : ∀ {Q : Int × Int × Nat → Shared → Prop} {E : Value → Shared → Prop} {A : Around}, Q ((items.size : Int) - 1, -1, items.size) s → wpAny (model prog w) A (Builtin.Slice.sliceApplied (.ref sl) (pure (items.size : Int))) Q E s := fun {Q E A} h => by
    unfold Builtin.Slice.sliceApplied Builtin.Slice.sliceFields
    refine wpAny_bind (wpAny_bind (wpAny_field hos hds (x := vl) rfl (wpAny_bind (wpAny_field hos hds (x := vu) rfl (wpAny_bind (wpAny_field hos hds (x := vs) rfl (wpAny_pure ?_)))))))
    refine wpAny_bind (HT.slicePart_ ps ?_)
    show wpAny _ _ (if ((-1 : Int) == 0) = true then _ else _) _ _ s
    rw [if_neg (by decide)]
    refine wpAny_bind (HT.slicePart_ pl (wpAny_bind (HT.slicePart_ pu (wpAny_bind (wpAny_pure ?_)))))
    show wpAny _ _ (pure ((items.size : Int) - 1, (-1 : Int), Builtin.Slice.slicePlaces ((items.size : Int) - 1) (-1) (-1))) _ _ s
    have : Builtin.Slice.slicePlaces ((items.size : Int) - 1) (-1) (-1) = items.size := by
      unfold Builtin.Slice.slicePlaces
      rw [if_neg (by decide)]
      rw [show -(-1 : Int) = 1 from rfl, Int.ediv_one]
      split <;> omega
    rw [this]
    exact wpAny_pure h
  refine wpAny_bind (app ?_)
  have hno : ¬ ((((items.size : Int) - 1) == 0 && (-1 : Int) == 1 && items.size == items.size) = true) := by simp
  show wpAny _ _ (if (((items.size : Int) - 1) == 0 && (-1 : Int) == 1 && items.size == items.size) = true then _ else _) _ _ s
  rw [if_neg hno, pick_rev]
  first
    | exact wpAny_bind (m := Builtin.Tuple.tupleExact _) (wpAny_newObj_type (wpAny_pure ⟨_, rfl, wpAny_pure h⟩) htake)
    | exact wpAny_bind (m := Builtin.Tuple.tupleExact _) (wpAny_newObj_type (wpAny_bind (wpAny_pure (wpAny_pure ⟨_, rfl, wpAny_pure h⟩))) htake)
    | exact wpAny_bind (wpAny_bind (m := Builtin.Tuple.tupleExact _) (wpAny_newObj_type (wpAny_pure (wpAny_pure ⟨_, rfl, wpAny_pure h⟩)) htake))
    | exact wpAny_bind (wpAny_bind (m := Builtin.Tuple.tupleExact _) (wpAny_newObj_type (wpAny_pure ⟨_, rfl, wpAny_pure h⟩) htake))
end
/-! ### [::-1] -/
def revD : D → Option D
  | .lst xs => some (.lst xs.reverse)
  | .fz xs => some (.lst xs.reverse)
  | .tup xs => some (.tup xs.reverse)
  | .kt xs => some (.tup xs.reverse)
  | _ => none
def eRev (f : En → R D) (env : En) : R D := f env >>= fun d => R.of (revD d)
section
variable {X : Cx} {W : WX}
def tRevA (K : PySem.W.Frag) (te : TE) : TE := fun σ H Q => te σ H fun x H1 => ∃ a xs, x = .ref a ∧ ((SqL K H1 a xs ∧ ∀ p, H1 p = none → Q (.ref p) (upd H1 p (.lst xs.reverse))) ∨ (SqT K H1 a xs ∧ ∀ p, H1 p = none → Q (.ref p) (upd H1 p (.tup xs.reverse))))
theorem pe_revA {e : Expr} {te : TE} {k : Nat} {p1 p2 p3 pos : Pos} (he : PE X e te) : PE X (.Subscript e (.Slice none none (some (.UnaryOp .USub (.Constant (.int 1) k p1) p2)) p3) pos) (tRevA X.K te) := by
  refine ⟨fun pins s σ H Q I h => ?_⟩
  refine Subscript_ (thn (he.run pins s σ H _ I h) fun v s1 ⟨x, H1, I1, r1, q1⟩ => ?_)
  obtain ⟨a, xs, ex, q⟩ := q1
  subst ex
  cases r1
  have hst : PO X (some (.UnaryOp .USub (.Constant (.int 1) k p1) p2)) (tPart (tUn (rU fun i => .int (-i)) (tC (.int 1)))) := po_some (pe_un un_neg pe_int)
  refine wpAny_Slice (thn (po_none.run pins s1 σ H1 (fun o H2 => o = none ∧ H2 = H1) I1 ⟨rfl, rfl⟩) fun vl s2 ⟨l, H2, I2, pl, el, e2⟩ => ?_)
  subst el e2
  refine thn (po_none.run pins s2 σ H2 (fun o H3 => o = none ∧ H3 = H2) I2 ⟨rfl, rfl⟩) fun vu s3 ⟨u, H3, I3, pu, eu, e3⟩ => ?_
  subst eu e3
  refine thn (hst.run pins s3 σ H3 (fun o H4 => o = some (-1) ∧ H4 = H3) I3 ⟨1, rfl, -1, rfl, rfl, rfl⟩) fun vs s4 ⟨o, H4, I4, ps, eo, e4⟩ => ?_
  subst eo e4
  have I5 : Inv X pins σ H4 { s4 with heap := s4.heap.push { cls := .type "slice", data := .fields #[vl, vu, vs] } } := I4.kept (t' := s4.toks) fun b ob q => Heap.get?_push_of_some _ q
  show wpAny (model X.prog X.w) X.A (subscriptTail e (.Slice none none (some (.UnaryOp .USub (.Constant (.int 1) k p1) p2)) p3) (.ref a) (.ref s4.heap.objs.size)) (EP X pins σ Q) X.xe { s4 with heap := s4.heap.push { cls := .type "slice", data := .fields #[vl, vu, vs] } }
  rcases q with ⟨hx, q⟩ | ⟨hx, q⟩
  · obtain ⟨its, r, ht, hz⟩ := I5.list hx
    have hlen := r.length
    refine tail_any (ops := [.ref a, .ref s4.heap.objs.size]) ht.isList.typeIs (PySem.slot_list_getitem.lookup) ?_ (by with_unfolding_all rfl)
    refine wpAny_getItem_list_slice ht.isList (Heap.IsSliceOf.new _ vl vu vs) pl pu ps (by decide) ?_ (by rw [List.size_toArray]; omega)
    rw [PySem.W.krv_pick]
    refine ⟨.ref _, _, I5.laid (t' := s4.toks) (o := .lst xs.reverse) (fun b ob q => Heap.get?_push_of_some _ q) (Nat.le_refl _) ?_, rfl, q _ (I5.hok.fresh (Nat.le_refl _))⟩
    exact ⟨by rw [List.length_reverse]; exact hz, _, 0, r.reverse, Heap.get?_push_size _ rfl⟩
  · obtain ⟨its, r, ht, hz⟩ := I5.tuple hx
    have hlen := r.length
    refine tail_any (ops := [.ref a, .ref s4.heap.objs.size]) ht.typeIs (PyProof.Rows.slot_tuple_getitem.lookup) ?_ (by with_unfolding_all rfl)
    refine getItem_tuple_rev ht (Heap.IsSliceOf.new _ vl vu vs) pl pu ps ?_ (by rw [List.size_toArray]; omega)
    refine ⟨.ref _, _, I5.laid (t' := s4.toks) (o := .tup xs.reverse) (fun b ob q => Heap.get?_push_of_some _ q) (Nat.le_refl _) ?_, rfl, q _ (I5.hok.fresh (Nat.le_refl _))⟩
    exact ⟨by rw [List.length_reverse]; exact hz, _, r.reverse, IsTup.new _ _⟩
theorem VAll.rev {K : PySem.W.Frag} {mg : Str → Option Value} {H : Hp} {fp0 : List Addr} : ∀ {ds : List D} {vs : List V} {fp : List Addr}, VAll K mg H ds vs fp → (∀ b ∈ fp, b ∈ fp0) → ∃ g, VAll K mg H ds.reverse vs.reverse g ∧ ∀ b ∈ g, b ∈ fp0
  | [], vs, fp, h, hf => by simp only [VAll] at h; rw [h.1]; exact ⟨[], VAll.nil, nf⟩
  | d :: ds, vs, fp, h, hf => by
    simp only [VAll] at h
    obtain ⟨v, vr, f, g, ev, ef, h1, h2⟩ := h
    obtain ⟨g', h3, h4⟩ := VAll.rev h2 (fun b hb => hf b (by rw [ef]; exact List.mem_append_right _ hb))
    subst ev
    rw [List.reverse_cons, List.reverse_cons]
    exact ⟨g' ++ f, h3.append (VAll.one h1), fun b hb => (List.mem_append.mp hb).elim (h4 b) fun z => hf b (by rw [ef]; exact List.mem_append_left _ z)⟩
theorem dq_rev {e : Expr} {f : En → R D} {k : Nat} {p1 p2 p3 pos : Pos} (h : DE X W e f) : DQ X W (.Subscript e (.Slice none none (some (.UnaryOp .USub (.Constant (.int 1) k p1) p2)) p3) pos) (eRev f) :=
  pe_weak (pe_revA h) fun σ H Q ⟨S, env, P, q⟩ => by
    refine stE P q fun d v H1 fp e1 hv hp q => ?_
    obtain ⟨r, er, q⟩ := Out.of q
    have list : ∀ ds a vs f, v = .ref a → SqL X.K H1 a vs → VAll X.K X.mg H1 ds vs f → (∀ b ∈ f, b ∈ fp) → r = .lst ds.reverse → ∃ a xs, v = .ref a ∧ ((SqL X.K H1 a xs ∧ ∀ p, H1 p = none → Q (.ref p) (upd H1 p (.lst xs.reverse))) ∨ (SqT X.K H1 a xs ∧ ∀ p, H1 p = none → Q (.ref p) (upd H1 p (.tup xs.reverse)))) := fun ds a vs f ev hs hd hf er => by
      subst er
      obtain ⟨g, h3, h4⟩ := VAll.rev (fp0 := fp) hd hf
      exact ⟨a, vs, ev, .inl ⟨hs, fun p hp' => q _ _ (p :: g) (e1.trans (Sm.new hp')) (val_lst upd_same (h3.sm (Sm.new hp'))) (.one (e1.back hp') mut_new (fun b hb => hp b (h4 b hb)) fun hi => VAll.imm _ h3 hi)⟩⟩
    have tup : ∀ ds a vs f, v = .ref a → SqT X.K H1 a vs → VAll X.K X.mg H1 ds vs f → (∀ b ∈ f, b ∈ fp) → r = .tup ds.reverse → ∃ a xs, v = .ref a ∧ ((SqL X.K H1 a xs ∧ ∀ p, H1 p = none → Q (.ref p) (upd H1 p (.lst xs.reverse))) ∨ (SqT X.K H1 a xs ∧ ∀ p, H1 p = none → Q (.ref p) (upd H1 p (.tup xs.reverse)))) := fun ds a vs f ev hs hd hf er => by
      subst er
      obtain ⟨g, h3, h4⟩ := VAll.rev (fp0 := fp) hd hf
      exact ⟨a, vs, ev, .inr ⟨hs, fun p hp' => q _ _ g (e1.trans (Sm.new hp')) (val_tup upd_same (h3.sm (Sm.new hp'))) (.old (fun b hb => hp b (h4 b hb)) fun hi => VAll.imm _ h3 hi)⟩⟩
    cases d <;> simp only [revD, reduceCtorEq, Option.some.injEq] at er <;> simp only [Val] at hv
    · obtain ⟨a, vs, ev, h1, h2⟩ := hv
      exact tup _ a vs fp ev (.inl (.inl h1)) h2 (fun _ z => z) er.symm
    · obtain ⟨a, vs, f, ev, ef, h1, h2⟩ := hv
      exact list _ a vs f ev (.inl (.inl h1)) h2 (fun b hb => by rw [ef]; exact List.mem_cons_of_mem _ hb) er.symm
    · obtain ⟨a, vs, ev, h1, h2⟩ := hv
      exact list _ a vs fp ev h1.sq h2 (fun _ z => z) er.symm
    · obtain ⟨a, vs, ev, h1, h2⟩ := hv
      exact tup _ a vs fp ev h1.sq h2 (fun _ z => z) er.symm
/-! ### list(range(..)) -/
def okRg (i j : Int) : Bool := decide (-(2 ^ 62) ≤ i) && decide (i < 2 ^ 62) && decide (-(2 ^ 62) ≤ j) && decide (j < 2 ^ 62) && decide ((j - i).toNat ≤ 2 ^ 24)
def lrgF1 : List D → Option D
  | [.int j] => if okRg 0 j = true then some (.lst (rngD 0 j.toNat 1)) else none
  | _ => none
def lrgF2 : List D → Option D
  | [.int i, .int j] => if okRg i j = true then some (.lst (rngD i (j - i).toNat 1)) else none
  | _ => none
theorem okRg_iff {i j : Int} (h : okRg i j = true) : RgOk i j := by
  simp only [okRg, Bool.and_eq_true, decide_eq_true_eq] at h
  exact ⟨h.1.1.1.1, h.1.1.1.2, h.1.1.2, h.1.2, h.2⟩
theorem vall_rg {K : PySem.W.Frag} {mg : Str → Option Value} {H : Hp} {i j : Int} : VAll K mg H (rngD i (j - i).toNat 1) (rgV i j) [] := by
  unfold rngD rgV
  generalize (List.range (j - i).toNat) = l
  induction l with
  | nil => exact VAll.nil
  | cons k l ih =>
    simp only [List.map_cons]
    exact VAll.cons (f := []) (g := []) (by rw [Int.mul_one]; exact val_int) ih
theorem df_listRg1 {a : Expr} {p p2 pos pos2 : Pos} {f : En → R D} (h : DE X W a f) (hm : X.mg "list" = none) (hm2 : X.mg "range" = none) (hc : X.calm = true := by rfl) (hg : Gl X "list" := by rfl) (hg2 : Gl X "range" := by rfl)
    (na : starEach [Expr.Call (.Name "range" p2) [a] [] pos2] X.env = (false, eval (Expr.Call (.Name "range" p2) [a] [] pos2) X.env) :: starEach [] X.env := by rfl) (na2 : starEach [a] X.env = (false, eval a X.env) :: starEach [] X.env := by rfl) :
    DF X W (.Call (.Name "list" p) [.Call (.Name "range" p2) [a] [] pos2] [] pos) (eCall lrgF1 (eCons f eNil)) :=
  pe_weak (pe_listRg hc hg hm (prg_1 hg2 hm2 h na2) na) fun σ H Q ⟨S, env, P, q⟩ => by
    have q := q.bind
    refine stE P q fun d v H1 fp e1 hv hp q => ?_
    obtain ⟨r, er, q⟩ := Out.of q
    unfold lrgF1 at er
    split at er
    · rename_i j heq
      simp only [List.cons.injEq, and_true] at heq
      subst heq
      split at er
      · rename_i hz
        cases er
        simp only [Val] at hv
        exact ⟨j, hv.1, okRg_iff hz, fun p hp' => q _ _ [p] (e1.trans (Sm.new hp')) (val_lst upd_same (by have := vall_rg (K := X.K) (mg := X.mg) (H := upd H1 p (.lst (rgV 0 j))) (i := 0) (j := j); rw [Int.sub_zero] at this; exact this)) (by simp) (by simp [e1.back hp', mut_new])⟩
      · cases er
    · cases er
theorem df_listRg2 {a b : Expr} {p p2 pos pos2 : Pos} {f g : En → R D} (h : DE X W a f) (h2 : DE X W b g) (hm : X.mg "list" = none) (hm2 : X.mg "range" = none) (hc : X.calm = true := by rfl) (hg : Gl X "list" := by rfl) (hg2 : Gl X "range" := by rfl)
    (na : starEach [Expr.Call (.Name "range" p2) [a, b] [] pos2] X.env = (false, eval (Expr.Call (.Name "range" p2) [a, b] [] pos2) X.env) :: starEach [] X.env := by rfl) (na2 : starEach [a, b] X.env = (false, eval a X.env) :: starEach [b] X.env := by rfl)
    (na3 : starEach [b] X.env = (false, eval b X.env) :: starEach [] X.env := by rfl) (hp : (backTo pos2 (starEach [b] X.env)).any (·.1) = false := by rfl) :
    DF X W (.Call (.Name "list" p) [.Call (.Name "range" p2) [a, b] [] pos2] [] pos) (eCall lrgF2 (eCons f (eCons g eNil))) :=
  pe_weak (pe_listRg hc hg hm (prg_2 hg2 hm2 h h2 na2 na3 hp) na) fun σ H Q ⟨S, env, P, q⟩ => by
    have q := q.bind
    refine stE P q fun d v H1 fp e1 hv hp q => ?_
    have q := q.bind
    refine stE (P.sm e1) q fun d2 v2 H2 fp2 e2 hv2 hp2 q => ?_
    obtain ⟨r, er, q⟩ := Out.of q
    unfold lrgF2 at er
    split at er
    · rename_i i j heq
      simp only [List.cons.injEq, and_true] at heq
      obtain ⟨rfl, rfl⟩ := heq
      split at er
      · rename_i hz
        cases er
        simp only [Val] at hv hv2
        exact ⟨i, j, hv.1, hv2.1, okRg_iff hz, fun p hp' => q _ _ [p] ((e1.trans e2).trans (Sm.new hp')) (val_lst upd_same vall_rg) (by simp) (by simp [(e1.trans e2).back hp', mut_new])⟩
      · cases er
    · cases er
end
end DL
set_option Elab.async false
set_option linter.all false
set_option maxRecDepth 100000
set_option maxHeartbeats 2000000
namespace DL
open PySem PySem.Spec PyProof.Rows L2
theorem bt_int : bootBuiltins "int" = some (.type "int") := by decide +kernel
theorem bt_bool : bootBuiltins "bool" = some (.type "bool") := by decide +kernel
theorem bt_str : bootBuiltins "str" = some (.type "str") := by decide +kernel
theorem bt_list : bootBuiltins "list" = some (.type "list") := by decide +kernel
theorem bt_tuple : bootBuiltins "tuple" = some (.type "tuple") := by decide +kernel
theorem bt_dict : bootBuiltins "dict" = some (.type "dict") := by decide +kernel
theorem bt_len : bootBuiltins "len" = some (.builtin "len") := by decide +kernel
theorem bt_abs : bootBuiltins "abs" = some (.builtin "abs") := by decide +kernel
theorem bt_min : bootBuiltins "min" = some (.builtin "min") := by decide +kernel
theorem bt_max : bootBuiltins "max" = some (.builtin "max") := by decide +kernel
theorem bt_sum : bootBuiltins "sum" = some (.builtin "sum") := by decide +kernel
theorem bt_any : bootBuiltins "any" = some (.builtin "any") := by decide +kernel
theorem bt_all : bootBuiltins "all" = some (.builtin "all") := by decide +kernel
theorem bt_sorted : bootBuiltins "sorted" = some (.builtin "sorted") := by decide +kernel
theorem bt_isinstance : bootBuiltins "isinstance" = some (.builtin "isinstance") := by decide +kernel
/-- room for == and the like -/
theorem hu64 {k : Nat} {A : Around} (r : Room k A) : A.units + 64 < cLine := by have := r.un; omega
theorem hu65 {k : Nat} {A : Around} (r : Room k A) : A.units + 65 < cLine := by have := r.un; omega
theorem hu1 {k : Nat} {A : Around} (r : Room k A) : A.units + 1 < cLine := by have := r.un; omega
theorem hu0 {k : Nat} {A : Around} (r : Room k A) : A.units < cLine := by have := r.un; omega
section
variable {P : Program} {w : World} {K : PySem.W.Frag} {mg : Str → Option Value} {base h : Heap}
/-- a def as the top has written it -/
def RawD (K : PySem.W.Frag) (mg : Str → Option Value) (x : Str) (st : Stmt) (ps : List Str) : Prop := ∃ f fd, mg x = some (.ref f) ∧ Fun K x x st f fd ∧ Binds K fd ps [] ∧ ∀ (s : Shared) (us : List Value), us.length = ps.length → BindsTo s fd ⟨us, []⟩ (ps.zip us)
theorem rawD_mk {x : Str} {st : Stmt} {ps : List Str} {f : Addr} {oc : Value} {od an : Option Addr} {osl : Array (Option Value)} {kV doc pm cdv ct : Value} (X : K.In h) (G : h.Ns mainGlobals mg) (a : PySem.W.nsIn K mainGlobals x = some (some (.ref f)))
    (l : K.lookup f = some ⟨oc, od, .func (PySem.W.fnOf x x (defArgs st) (defBody st) (defScope st) .none kV doc pm an cdv ct), osl⟩) (c : PySem.W.codeIn K cdv x = true) (k : PySem.W.keepIn K (.ref f) = true)
    (b : ∀ (kV doc pm : Value) (an : Option Addr) (cdv ct : Value) (us : List Value), us.length = ps.length → bindArgs (PySem.W.fnOf x x (defArgs st) (defBody st) (defScope st) .none kV doc pm an cdv ct) ⟨us, []⟩ = pure (ps.zip us)) : RawD K mg x st ps :=
  ⟨f, _, PySem.W.mg_of X G a, fun_mk l c k, (fun_mk l c k).binds b, fun s us hu => .of_eq (b _ _ _ _ _ _ us hu)⟩
/-- a def that computes F -/
def DefD (P : Program) (w : World) (K : PySem.W.Frag) (mg : Str → Option Value) (base : Heap) (k n : Nat) (x : Str) (F : List D → R D) : Prop :=
  ∃ f fd ps, mg x = some (.ref f) ∧ PySem.W.keepIn K (.ref f) = true ∧ Binds K fd ps [] ∧ FnOk P w K mg base (L2.CX P w) k f fd ps (spD K mg n F)
theorem okDD {x : Str} {st : Stmt} {N ps : List Str} {k n : Nat} {G : En → Fl} (r : RawD K mg x st ps) (S : FnScope N ps (defScope st)) (hn : ps.length = n)
    (body : ∀ (f : Addr) (cdv : Value) (A : Around) (outer : List Env) (s : Shared) (H : Hp) (E : XK), Room k (A.deeper (envOfC x (defScope st) s.heap.objs.size f cdv)) → Takes (cxOf (L2.CX P w) P w K mg base N x (defScope st) f cdv A outer s H E) (fun cls d _ H => E cls d H) →
      DSs (cxOf (L2.CX P w) P w K mg base N x (defScope st) f cdv A outer s H E) (fun cls d _ H => E cls d H) (defBody st) G) :
    DefD P w K mg base (k + 1) n x (runD n N.length G) := by
  obtain ⟨f, fd, h1, h2, h3, _⟩ := r
  exact ⟨f, fd, ps, h1, h2.kp, h3, okD h2 S hn (body f)⟩
/-- the law's own def -/
def LawD (P : Program) (w : World) (K : PySem.W.Frag) (mg : Str → Option Value) (k : Nat) (F : List D → R D) : Prop :=
  ∃ f fd, mg "law" = some (.ref f) ∧ (∀ (s : Shared) (u : Value), BindsTo s fd ⟨[u], []⟩ [("script", u)]) ∧ ∀ base, FnOk P w K mg base (L2.CX P w) k f fd ["script"] (spD K mg 1 F)
theorem okLL {st : Stmt} {N : List Str} {k : Nat} {G : En → Fl} (r : RawD K mg "law" st ["script"]) (S : FnScope N ["script"] (defScope st))
    (body : ∀ (base : Heap) (f : Addr) (cdv : Value) (A : Around) (outer : List Env) (s : Shared) (H : Hp) (E : XK), Room k (A.deeper (envOfC "law" (defScope st) s.heap.objs.size f cdv)) → Takes (cxOf (L2.CX P w) P w K mg base N "law" (defScope st) f cdv A outer s H E) (fun cls d _ H => E cls d H) →
      DSs (cxOf (L2.CX P w) P w K mg base N "law" (defScope st) f cdv A outer s H E) (fun cls d _ H => E cls d H) (defBody st) G) :
    LawD P w K mg (k + 1) (runD 1 N.length G) := by
  obtain ⟨f, fd, h1, h2, h3, h4⟩ := r
  exact ⟨f, fd, h1, fun s u => h4 s [u] rfl, fun base => okD h2 S rfl (body base f)⟩
end
section
variable {X : Cx} {W : WX} {k n j : Nat} {F : List D → R D} {x : Str} {p pos : Pos} {e : Expr} {es : List Expr} {g : En → R (List D)}
theorem df_call (G : DefD X.prog X.w X.K X.mg X.base k n x F) (hr : Room j X.A) (hk : k ≤ j) (tk : Takes X W) (ha : DA X W (e :: es) g) (hg : Gl X x := by rfl) (hdb : (x == ("__debug__" : Str)) = false := by decide)
    (he : starEach (e :: es) X.env = (false, eval e X.env) :: starEach es X.env := by rfl) (hpl : (backTo pos (starEach es X.env)).any (·.1) = false := by rfl) : DF X W (.Call (.Name x p) (e :: es) [] pos) (eCallF n F g) := by
  obtain ⟨f, fd, ps, h1, h2, h3, h4⟩ := G
  exact df_callF h4 (hr.mono hk) h1 h2 h3 tk ha hg hdb he hpl
/-- a number of the top -/
theorem de_globI {i : Int} (hm : ∃ t, X.mg x = some (.int i t)) (hg : Gl X x := by rfl) (hd : (x == ("__debug__" : Str)) = false := by decide) : DE X W (.Name x p) (eC (.int i)) := by
  obtain ⟨t, hm⟩ := hm
  exact de_glob hm (v := .int i) ⟨t, rfl⟩ (fun H => val_int) hg hd
/-- a text of the top -/
theorem de_globS {z : Str} (hm : ∃ t, X.mg x = some (.str z t)) (hg : Gl X x := by rfl) (hd : (x == ("__debug__" : Str)) = false := by decide) : DE X W (.Name x p) (eC (.str z)) := by
  obtain ⟨t, hm⟩ := hm
  exact de_glob hm (v := .str z) ⟨t, rfl⟩ (fun H => val_str) hg hd
end
/-! ### exceptions -/
/-- an own class of exceptions, a kind of ValueError -/
def ExcD (K : PySem.W.Frag) (mg : Str → Option Value) (x : Str) : Prop := ∃ C, mg x = some (.ref C) ∧ PySem.W.excIn K C [.type "ValueError", .type "Exception", .type "BaseException", .type "object"] "ValueError.__new__" = true ∧ PySem.W.keepIn K (.ref C) = true ∧
  PySem.W.subIn K (.ref C) (.type "BaseException") = some true ∧ PySem.W.typeIn K (.ref C) = some (.type "type")
section
variable {X : Cx} {W : WX} {x m : Str} {p pos p2 pos2 : Pos} {j : Nat}
theorem ds_raiseD (E : ExcD X.K X.mg x) (tk : Takes X W) (hc : X.calm = true := by rfl) (hg : Gl X x := by rfl) (hdb : (x == ("__debug__" : Str)) = false := by decide) : DS X W (.Raise (some (.Call (.Name x p) [.Constant (.str m) j p2] [] pos)) none pos2) (sRaise x) := by
  obtain ⟨C, h1, h2, h3, h4, h5⟩ := E
  exact ds_raise tk h2 h1 h3 (raises_own h4 h5) hc hg hdb
/-- whether an exception of the class x is one that «except y» takes -/
def CatD (K : PySem.W.Frag) (mg : Str → Option Value) (y x : Str) (b : Bool) : Prop := ∀ C C', mg y = some (.ref C) → mg x = some (.ref C') → PySem.W.exmOne K (.ref C') (.ref C) = some b
theorem ds_tryD {y : Str} {body suite : List Stmt} {b₀ : Stmt} {np pos' : Pos} {F G : En → Fl} {cat : List (Str × Bool)} (hy : ∃ C, X.mg y = some (.ref C)) (tk : Takes X W) (hcat : ∀ p ∈ cat, CatD X.K X.mg y p.1 p.2)
    (hb : ∀ (W : WX) (pn : List (Addr × Obj)) (xe : Value → Shared → Prop), Takes (X.tr pn xe) W → PassesOwn (model X.prog X.w) X.A X.env xe → DSs (X.tr pn xe) W body F)
    (hsu : ∀ (a : Addr) (oe : Obj) (cls : Value) (d : Option Addr) (pn : List (Addr × Obj)), DSs (X.suite a ((a, oe) :: pn)) W (b₀ :: suite) G)
    (hs : X.stack = X.env :: X.outer := by rfl) (hf : X.env.frame = some X.env.locals := by rfl) (hg : Gl X y := by rfl) (hdb : (y == ("__debug__" : Str)) = false := by decide) :
    DS X W (.Try body [.ExceptHandler (some (.Name y np)) none (b₀ :: suite) pos'] [] [] pos) (sTry cat F G) := by
  obtain ⟨C, hC⟩ := hy
  exact ds_try hs hf ⟨hg, hdb, .inl hC⟩ tk (fun p hp C' h' => hcat p hp C C' hC h') hb hsu
end
/-! ### the law -/
def spL (K : PySem.W.Frag) : Sp := fun vs H Q _ => ∃ (a : Addr) (ns : List Int), vs = [.ref a] ∧ ns.length ≤ 63 ∧ Only H ∧ SqL K H a (ns.map V.int) ∧ ∀ H', Q (.bl true) H'
theorem vall_ints {K : PySem.W.Frag} {mg : Str → Option Value} {H : Hp} : ∀ {ns : List Int}, VAll K mg H (ns.map D.int) (ns.map V.int) []
  | [] => VAll.nil
  | n :: ns => VAll.cons (f := []) (g := []) val_int vall_ints
section
variable {P : Program} {w : World} {K : PySem.W.Frag} {mg : Str → Option Value} {base : Heap}
theorem law_ok {k : Nat} {f : Addr} {fd : FuncData} {ps : List Str} {F : List D → R D} (G : FnOk P w K mg base (L2.CX P w) k f fd ps (spD K mg 1 F)) (hF : ∀ ns : List Int, ns.length ≤ 63 → F [.fz (ns.map .int)] = .ok (.bl true)) : FnOk P w K mg base (L2.CX P w) k f fd ps (spL K) :=
  G.imp fun vs H Q E ⟨a, ns, e, hl, hO, hS, q⟩ => by
    subst e
    have fz : FzL K H a (ns.map V.int) := by
      rcases hS with (h | ⟨o, h⟩) | h
      · rcases hO a with z | ⟨o, xs, z⟩ <;> rw [z] at h <;> cases h
      · exact .inl ⟨o, h⟩
      · exact .inr h
    have hv : Val K mg H (.fz (ns.map .int)) (.ref a) [] := by
      simp only [Val]
      exact ⟨a, _, rfl, fz, vall_ints⟩
    refine ⟨rfl, [.fz (ns.map .int)], [], VAll.one hv, ?_⟩
    rw [hF ns hl]
    intro v H' fp e hv _ _
    simp only [Val] at hv
    rw [hv.1]
    exact q H'
end
theorem exc_there {K : PySem.W.Frag} {mg : Str → Option Value} {x : Str} (E : ExcD K mg x) : ∃ C, mg x = some (.ref C) := let ⟨C, h, _⟩ := E; ⟨C, h⟩
theorem exm_sub {K : PySem.W.Frag} {S T : Addr} {b : Bool} (h1 : PySem.W.subIn K (.ref S) (.type "BaseException") = some true) (h2 : PySem.W.isClsIn K S = true) (h3 : PySem.W.typeIn K (.ref S) = some (.type "type")) (h4 : PySem.W.subIn K (.ref T) (.ref S) = some b) :
    PySem.W.exmOne K (.ref T) (.ref S) = some b := by
  have e1 : (PySem.W.subIn K (.ref S) (.type "BaseException") == some true) = true := by rw [h1] <;> rfl
  have e2 : ((PySem.W.clsIn K S).isSome && PySem.W.typeIn K (.ref S) == some (.type "type")) = true := by
    have h2' : (PySem.W.clsIn K S).isSome = true := h2
    rw [h2', h3] <;> rfl
  show (if (PySem.W.subIn K (.ref S) (.type "BaseException") == some true) = true then (if ((PySem.W.clsIn K S).isSome && PySem.W.typeIn K (.ref S) == some (.type "type")) = true then PySem.W.subIn K (.ref T) (.ref S) else none) else none) = some b
  rw [if_pos e1, if_pos e2]
  exact h4
theorem catD_mk {K : PySem.W.Frag} {mg : Str → Option Value} {y x : Str} {b : Bool} {C C' : Addr} (h1 : mg y = some (.ref C)) (h2 : mg x = some (.ref C')) (h : PySem.W.exmOne K (.ref C') (.ref C) = some b) : CatD K mg y x b := fun D D' g1 g2 => by
  rw [h1] at g1; rw [h2] at g2
  cases g1; cases g2
  exact h
theorem law_end {P : Program} {w : World} {K : PySem.W.Frag} {mg : Str → Option Value} {k : Nat} {fa : Addr} {F : List D → R D} (hmg : mg "law" = some (.ref fa)) (G : LawD P w K mg k F) (hF : ∀ ns : List Int, ns.length ≤ 63 → F [.fz (ns.map .int)] = .ok (.bl true)) :
    ∃ fd : FuncData, (∀ (s : Shared) (u : Value), BindsTo s fd ⟨[u], []⟩ [("script", u)]) ∧ ∀ base : Heap, K.In base → base.Ns mainGlobals mg → FnOk P w K mg base (L2.CX P w) k fa fd ["script"] (spL K) := by
  obtain ⟨f, fd, h1, h2, h3⟩ := G
  rw [hmg] at h1
  cases h1
  exact ⟨fd, h2, fun base _ _ => law_ok (h3 base) hF⟩
theorem cx_none {P : Program} {w : World} (H : Hp) (s : Shared) (e : Value) (s' : Shared) (h : L2.CX P w [] H s (fun _ _ _ => False) e s') : False := by
  obtain ⟨_, _, _, _, _, _, _, _, _, _, _, _, z⟩ := h
  exact z.elim
theorem walk_D {l : PySem.W.OpenLaw} {k : Nat} {q : Program} {loose : List Str} {XP : (Str → Option Value) → Heap → Prop} {YP : World → Heap → Prop} {d : DefRec} {K : Params → PySem.W.Frag} (hn : l.most = some 63) (hdf : d.params.defaults = []) (hr : Room k callerA)
    (hY : ∀ (w : World) (h : Heap), YP w h → (K w.params).In h)
    (F : ∀ (w : World) (mg : Str → Option Value) (fa : Addr) (h : Heap), (K w.params).In h → h.Ns mainGlobals mg → mg d.name = some (.ref fa) →
      ∃ fd : FuncData, (∀ (s : Shared) (u : Value), BindsTo s fd ⟨[u], []⟩ [("script", u)]) ∧ ∀ base : Heap, (K w.params).In base → base.Ns mainGlobals mg → FnOk l.prog w (K w.params) mg base (L2.CX l.prog w) k fa fd ["script"] (spL (K w.params))) :
    PySem.W.WalkO q loose XP YP l.row.toRowW d [] (fun f vs => PySem.call f vs) :=
  L2.walk_of (n := 63) (k := k) (x := "script") (CX := fun w => L2.CX l.prog w) (sp := fun w => spL (K w.params)) hn (by decide) hdf hr hY F (fun _ _ a ns hl hO hS => ⟨a, ns, rfl, hl, hO, hS, fun _ => rfl⟩) fun _ H s e s' h => cx_none H s e s' h
end DL
set_option Elab.async false
set_option linter.all false
set_option maxRecDepth 100000
set_option maxHeartbeats 2000000
namespace DL
open PySem PySem.Spec PyProof.Rows L2
/-! ### the steps as equations -/
@[simp] theorem onE_ok {a : Type} (x : a) (env : En) (k : a → Fl) : onE (.ok x) env k = k x := nr rfl
@[simp] theorem onE_ex {a : Type} (c : Str) (env : En) (k : a → Fl) : onE (.ex c : R a) env k = .ex c env := nr rfl
section
variable {env e : En} {F G : En → Fl} {d : D} {c : Str}
theorem sSeq_nx (h : F env = .nx e) : sSeq F G env = G e := by unfold sSeq; rw [h]
theorem sSeq_rt (h : F env = .rt d) : sSeq F G env = .rt d := by unfold sSeq; rw [h]
theorem sSeq_ex (h : F env = .ex c e) : sSeq F G env = .ex c e := by unfold sSeq; rw [h]
theorem sIf_t {t : En → R Bool} (h : t env = .ok true) : sIf t F G env = F env := by unfold sIf; rw [h]; rfl
theorem sIf_f {t : En → R Bool} (h : t env = .ok false) : sIf t F G env = G env := by unfold sIf; rw [h]; rfl
theorem runD_rt {n m : Nat} {ds : List D} (hn : ds.length = n) (h : G (ds.map .sh ++ List.replicate (m - n) .un) = .rt d) : runD n m G ds = .ok d := by unfold runD; rw [if_pos hn, h]
theorem runD_nx {n m : Nat} {ds : List D} (hn : ds.length = n) (h : G (ds.map .sh ++ List.replicate (m - n) .un) = .nx e) : runD n m G ds = .ok .non := by unfold runD; rw [if_pos hn, h]
theorem runD_ex {n m : Nat} {ds : List D} (hn : ds.length = n) (h : G (ds.map .sh ++ List.replicate (m - n) .un) = .ex c e) : runD n m G ds = .ex c := by unfold runD; rw [if_pos hn, h]
end
/-! ### loops -/
theorem loop_nx {T : Tg} {body : En → Fl} {β : Type} (S : β → En → Prop) (step : β → D → β) {P : D → Prop} (h : ∀ d b env, P d → S b env → ∃ e e', put T d env = some e ∧ (body e = .nx e' ∨ body e = .ct e') ∧ S (step b d) e') :
    ∀ {ds : List D} {b : β} {env : En}, (∀ d ∈ ds, P d) → S b env → ∃ e', loop T body ds env = .nx e' ∧ S (ds.foldl step b) e'
  | [], b, env, _, hs => ⟨env, rfl, hs⟩
  | d :: ds, b, env, hp, hs => by
    obtain ⟨e, e', h1, h2, h3⟩ := h d b env (hp d List.mem_cons_self) hs
    obtain ⟨e2, h4, h5⟩ := loop_nx S step h (fun x hx => hp x (List.mem_cons_of_mem _ hx)) h3
    refine ⟨e2, ?_, h5⟩
    unfold loop
    rw [h1]
    simp only
    rcases h2 with h2 | h2 <;> rw [h2] <;> exact h4
/-- a loop that may hand back a value -/
theorem loop_find {T : Tg} {body : En → Fl} (S : En → Prop) (ret : D → Option D) {P : D → Prop} (h : ∀ d env, P d → S env → ∃ e, put T d env = some e ∧ match ret d with
      | some v => body e = .rt v
      | none => ∃ e', (body e = .nx e' ∨ body e = .ct e') ∧ S e') :
    ∀ {ds : List D} {env : En}, (∀ d ∈ ds, P d) → S env → match ds.findSome? ret with
      | some v => loop T body ds env = .rt v
      | none => ∃ e', loop T body ds env = .nx e' ∧ S e'
  | [], env, _, hs => ⟨env, rfl, hs⟩
  | d :: ds, env, hp, hs => by
    obtain ⟨e, h1, h2⟩ := h d env (hp d List.mem_cons_self) hs
    simp only [List.findSome?_cons]
    cases q : ret d with
    | some v =>
      rw [q] at h2
      show loop T body (d :: ds) env = .rt v
      unfold loop
      rw [h1]
      simp only at h2 ⊢
      rw [h2]
    | none =>
      rw [q] at h2
      obtain ⟨e', h2, h3⟩ := h2
      have ih := loop_find S ret h (fun x hx => hp x (List.mem_cons_of_mem _ hx)) h3
      have e1 : loop T body (d :: ds) env = loop T body ds e' := by
        rw [loop, h1]
        simp only
        rcases h2 with h2 | h2 <;> rw [h2]
      rw [e1]
      exact ih
/-! ### comprehensions -/
theorem cmp_map {T : Tg} {c : En → R Bool} {f : En → R D} {env : En} {β : Type} (P : β → Bool) (F : β → D) (I : β → D) : ∀ {bs : List β}, (∀ b ∈ bs, ∃ e, put T (I b) env = some e ∧ c e = .ok (P b) ∧ (P b = true → f e = .ok (F b))) →
    cmp T c f env (bs.map I) = some ((bs.filter P).map F)
  | [], _ => rfl
  | b :: bs, h => by
    obtain ⟨e, h1, h2, h3⟩ := h b List.mem_cons_self
    have ih := cmp_map P F I (bs := bs) fun x hx => h x (List.mem_cons_of_mem _ hx)
    simp only [List.map_cons, cmp, h1, Option.bind_some, h2, sure]
    cases q : P b with
    | true => simp [h3 q, sure, ih, List.filter_cons, q]
    | false => simp [ih, List.filter_cons, q]
theorem eComp_eq {vs : List Nat} {T : Tg} {fi : En → R (List D)} {c : En → R Bool} {f : En → R D} {env : En} {β : Type} {bs : List β} (P : β → Bool) (F : β → D) (I : β → D) (hi : fi env = .ok (bs.map I)) (hl : bs.length ≤ sizeLine)
    (h : ∀ b ∈ bs, ∃ e, put T (I b) (wipeE env vs) = some e ∧ c e = .ok (P b) ∧ (P b = true → f e = .ok (F b))) : eComp vs T fi c f env = .ok (.lst ((bs.filter P).map F)) := by
  unfold eComp
  rw [hi]
  simp only [R.bind_ok, List.length_map]
  rw [if_pos hl, cmp_map P F I h]
  rfl
theorem eComp_yes {vs : List Nat} {T : Tg} {fi : En → R (List D)} {f : En → R D} {env : En} {β : Type} {bs : List β} (F : β → D) (I : β → D) (hi : fi env = .ok (bs.map I)) (hl : bs.length ≤ sizeLine)
    (h : ∀ b ∈ bs, ∃ e, put T (I b) (wipeE env vs) = some e ∧ f e = .ok (F b)) : eComp vs T fi eYes f env = .ok (.lst (bs.map F)) := by
  have := eComp_eq (c := eYes) (f := f) (fun _ => true) F I hi hl fun b hb => by
    obtain ⟨e, h1, h2⟩ := h b hb
    exact ⟨e, h1, rfl, fun _ => h2⟩
  rw [this]
  congr 3
  exact List.filter_eq_self.mpr fun _ _ => rfl
/-! ### whole numbers -/
def tN (l : List Nat) : D := .tup (l.map fun (n : Nat) => .int (n : Int))
theorem sizeLine_val : sizeLine = 16777216 := sizeLine_eq
theorem toPyAll_map' (l : List D) : toPyAll l = l.map toPy := by
  induction l with
  | nil => rfl
  | cons d l ih => simp [toPyAll, ih]
theorem plainAll_all (l : List D) : plainAll l = l.all plain := by
  induction l with
  | nil => rfl
  | cons d l ih => simp [plainAll, ih]
theorem immAll_all (l : List D) : immAll l = l.all imm := by
  induction l with
  | nil => rfl
  | cons d l ih => simp [immAll, ih]
theorem canLayAll_all (l : List PyData) : PyData.canLayAll0 l = l.all PyData.canLay0 := by
  induction l with
  | nil => rfl
  | cons d l ih => simp [PyData.canLayAll0, ih]
@[simp] theorem imm_tN (l : List Nat) : imm (tN l) = true := by
  simp [tN, imm, immAll_all]
@[simp] theorem eqv_int (a b : Int) : eqv (.int a) (.int b) = (a == b) := by simp [eqv, toPy, PyData.eqv]
@[simp] theorem eqv_bl (a b : Bool) : eqv (.bl a) (.bl b) = (a == b) := by simp [eqv, toPy, PyData.eqv]
@[simp] theorem eqD_int (a b : Int) : eqD (.int a) (.int b) = some (.bl (a == b)) := by simp [eqD, fitE, flat]
@[simp] theorem neD_int (a b : Int) : neD (.int a) (.int b) = some (.bl (a != b)) := by simp [neD, fitE, flat, bne]
@[simp] theorem neD_bl (a b : Bool) : neD (.bl a) (.bl b) = some (.bl (a != b)) := by simp [neD, fitE, flat, bne]
@[simp] theorem eqD_bl (a b : Bool) : eqD (.bl a) (.bl b) = some (.bl (a == b)) := by simp [eqD, fitE, flat]
theorem depthAll_le {l : List PyData} {k : Nat} (h : ∀ d ∈ l, d.depth ≤ k) : PyData.depthAll l ≤ k := by
  induction l with
  | nil => simp [PyData.depthAll]
  | cons d l ih =>
    simp only [PyData.depthAll]
    have h1 := h d List.mem_cons_self
    have h2 := ih fun x hx => h x (List.mem_cons_of_mem _ hx)
    omega
@[simp] theorem okE_int (i : Int) : okE (.int i) = true := by simp [okE, plain, toPy, SeqAt.shaped, PyData.canLay0, PyData.depth]
theorem depth_int (i : Int) : (toPy (.int i)).depth = 0 := by simp [toPy, PyData.depth]
theorem okE_of {d : D} (h1 : plain d = true) (h2 : (toPy d).canLay0 = true) (h3 : (toPy d).depth ≤ 64) : okE d = true := by
  simp [okE, h1, SeqAt.shaped, h2, h3]
theorem plain_tN (l : List Nat) : plain (tN l) = true := by simp [tN, plain, plainAll_all]
theorem lay_tN (l : List Nat) : (toPy (tN l)).canLay0 = true := by simp [tN, toPy, PyData.canLay0, canLayAll_all, toPyAll_map']
theorem depth_tN (l : List Nat) : (toPy (tN l)).depth ≤ 1 := by
  simp only [tN, toPy, PyData.depth, toPyAll_map', List.map_map]
  have : PyData.depthAll (l.map (toPy ∘ fun (n : Nat) => D.int (n : Int))) ≤ 0 := depthAll_le fun d hd => by
    obtain ⟨n, _, rfl⟩ := List.mem_map.mp hd
    simp [toPy, PyData.depth]
  omega
@[simp] theorem okE_tN (l : List Nat) : okE (tN l) = true := okE_of (plain_tN l) (lay_tN l) (by have := depth_tN l; omega)
@[simp] theorem okE_rows (ls : List (List Nat)) : okE (.lst (ls.map tN)) = true := by
  refine okE_of ?_ ?_ ?_
  · simp [plain, plainAll_all, plain_tN]
  · simp [toPy, PyData.canLay0, canLayAll_all, toPyAll_map', lay_tN]
  · simp only [toPy, PyData.depth, toPyAll_map', List.map_map]
    have : PyData.depthAll (ls.map (toPy ∘ tN)) ≤ 1 := depthAll_le fun d hd => by
      obtain ⟨n, _, rfl⟩ := List.mem_map.mp hd
      exact depth_tN n
    omega
theorem eqvAll_nats : ∀ (l m : List Nat), PyData.eqvAll (toPyAll (l.map fun (n : Nat) => D.int (n : Int))) (toPyAll (m.map fun (n : Nat) => D.int (n : Int))) = decide (l = m)
  | [], [] => by simp [toPyAll, PyData.eqvAll]
  | [], _ :: _ => by simp [toPyAll, PyData.eqvAll]
  | _ :: _, [] => by simp [toPyAll, PyData.eqvAll]
  | a :: l, b :: m => by
    have ih := eqvAll_nats l m
    simp only [List.map_cons, toPyAll, PyData.eqvAll, ih, toPy, PyData.eqv]
    by_cases c : a = b
    · subst c; simp
    · have : ((a : Int) == (b : Int)) = false := by
        rw [beq_eq_false_iff_ne]; omega
      rw [this]; simp [c]
@[simp] theorem eqv_tN (l m : List Nat) : eqv (tN l) (tN m) = decide (l = m) := by
  simp only [eqv, tN, toPy, PyData.eqv]
  exact eqvAll_nats l m
theorem eqvAll_rows : ∀ (l m : List (List Nat)), PyData.eqvAll (toPyAll (l.map tN)) (toPyAll (m.map tN)) = decide (l = m)
  | [], [] => by simp [toPyAll, PyData.eqvAll]
  | [], _ :: _ => by simp [toPyAll, PyData.eqvAll]
  | _ :: _, [] => by simp [toPyAll, PyData.eqvAll]
  | a :: l, b :: m => by
    have ih := eqvAll_rows l m
    have e : PyData.eqv (toPy (tN a)) (toPy (tN b)) = decide (a = b) := eqv_tN a b
    simp only [List.map_cons, toPyAll, PyData.eqvAll, ih, e]
    by_cases c : a = b
    · subst c; simp
    · simp [c]
@[simp] theorem neD_rows (l m : List (List Nat)) : neD (.lst (l.map tN)) (.lst (m.map tN)) = some (.bl (!decide (l = m))) := by
  simp only [neD, fitE, okE_rows, Bool.and_self, Bool.or_true, if_true]
  congr 2
  simp only [eqv, toPy, PyData.eqv]
  rw [eqvAll_rows]
@[simp] theorem neD_tN (l m : List Nat) : neD (tN l) (tN m) = some (.bl (!decide (l = m))) := by
  simp [neD, fitE]
/-- the items by their place -/
theorem atI_nat {α : Type} {l : List α} {i : Nat} (h : i < l.length) : L2.atI l (i : Int) = l[i]? := by
  unfold L2.atI L2.ixN
  rw [if_pos (by omega), if_pos (by omega)]
  simp
theorem atI_last {α : Type} {l : List α} (h : l ≠ []) : L2.atI l (-1) = l[l.length - 1]? := by
  have : 0 < l.length := List.length_pos_iff.mpr h
  unfold L2.atI L2.ixN
  rw [if_neg (by omega), if_pos (by omega)]
  simp only [Option.bind_some]
  congr 1
  omega
theorem idx_tN {l : List Nat} {i : Nat} (h : i < l.length) : idxD (tN l) (.int (i : Int)) = some (.int (l.getD i 0 : Nat)) := by
  show (items (tN l)).bind (fun xs => L2.atI xs (i : Int)) = _
  simp only [tN, items, Option.bind_some]
  rw [atI_nat (by simpa using h), List.getElem?_map, List.getElem?_eq_getElem h]
  simp [List.getD_eq_getElem?_getD, h]
theorem idx_lst {l : List D} {i : Nat} {d : D} (h : l[i]? = some d) : idxD (.lst l) (.int (i : Int)) = some d := by
  show (items (.lst l)).bind (fun xs => L2.atI xs (i : Int)) = _
  simp only [items, Option.bind_some]
  rw [atI_nat (List.getElem?_eq_some_iff.mp h).1, h]
theorem idx_last {l : List Nat} (h : l ≠ []) : idxD (tN l) (.int (-1)) = some (.int (l.getLast h : Nat)) := by
  show (items (tN l)).bind (fun xs => L2.atI xs (-1)) = _
  simp only [tN, items, Option.bind_some]
  rw [atI_last (by simpa using h), List.getElem?_map, List.length_map, ← List.getLast?_eq_getElem?, List.getLast?_eq_some_getLast h]
  rfl
@[simp] theorem in_tN (l : List Nat) (a : Nat) : inB (.int (a : Int)) (tN l) = some (l.contains a) := by
  have e : inB (.int (a : Int)) (tN l) = if okE (.int (a : Int)) = true ∧ okE (tN l) = true then some ((l.map fun (n : Nat) => D.int (n : Int)).any fun z => eqv z (.int (a : Int))) else none := nr rfl
  rw [e, if_pos ⟨okE_int _, okE_tN l⟩]
  congr 1
  clear e
  induction l with
  | nil => rfl
  | cons b l ih =>
    simp only [List.map_cons, List.any_cons, List.contains_cons, eqv_int]
    rw [ih]
    congr 1
    by_cases c : a = b
    · subst c; rw [beq_self_eq_true, beq_self_eq_true]
    · have h1 : ((b : Int) == (a : Int)) = false := by rw [beq_eq_false_iff_ne]; omega
      have h2 : (a == b) = false := by rw [beq_eq_false_iff_ne]; exact c
      rw [h1, h2]
@[simp] theorem len_tN (l : List Nat) : lenF [tN l] = some (.int (l.length : Int)) := by simp [lenF, lenB, tN, items]
@[simp] theorem len_lst (l : List D) : lenF [.lst l] = some (.int (l.length : Int)) := by simp [lenF, lenB, items]
theorem add_tN {l m : List Nat} (h : l.length + m.length ≤ sizeLine) : addD (tN l) (tN m) = some (tN (l ++ m)) := by
  simp [addD, tN, h]
def iN (l : List Nat) : List D := l.map fun (n : Nat) => .int (n : Int)
theorem rng_nat (n : Nat) : rngD 0 n 1 = iN (List.range n) := by
  simp [rngD, iN]
theorem small_nat {n : Nat} (h : n < 2 ^ 62) : small62 (n : Int) = true := by
  simp only [small62, Bool.and_eq_true, decide_eq_true_eq]
  constructor <;> omega
theorem rngF1 {n : Nat} (h : n < 2 ^ 62) : rangeF1 [.int (n : Int)] = some (iN (List.range n)) := by
  have : small62 (n : Int) = true := small_nat h
  simp only [rangeF1, this, if_true, Int.toNat_natCast, rng_nat]
/-- a, a + 1, .. , b - 1 -/
def upto (a b : Nat) : List Nat := (List.range (b - a)).map fun k => a + k
theorem rngF2 {a b : Nat} (ha : a < 2 ^ 62) (hb : b < 2 ^ 62) : rangeF2 [.int (a : Int), .int (b : Int)] = some (iN (upto a b)) := by
  have h1 : small62 (a : Int) = true := small_nat ha
  have h2 : small62 (b : Int) = true := small_nat hb
  have : ((b : Int) - (a : Int)).toNat = b - a := by omega
  show (if small62 (a : Int) = true ∧ small62 (b : Int) = true then some (rngD (a : Int) ((b : Int) - (a : Int)).toNat 1) else none) = _
  rw [if_pos ⟨h1, h2⟩, this]
  refine congrArg some ?_
  unfold rngD iN upto
  rw [List.map_map]
  refine List.map_congr_left fun k _ => ?_
  refine congrArg D.int ?_
  show (a : Int) + (k : Int) * 1 = ((a + k : Nat) : Int)
  omega
/-- a, a + 2, .. below b -/
def by2 (a b : Nat) : List Nat := (List.range ((b - a + 1) / 2)).map fun k => a + k * 2
theorem rngF3 {a b : Nat} (ha : a < 2 ^ 62) (hb : b < 2 ^ 62) : rangeF3 [.int (a : Int), .int (b : Int), .int 2] = some (iN (by2 a b)) := by
  have h1 : small62 (a : Int) = true := small_nat ha
  have h2 : small62 (b : Int) = true := small_nat hb
  have : (((b : Int) - (a : Int) + 1) / 2).toNat = (b - a + 1) / 2 := by omega
  show (if small62 (a : Int) = true ∧ small62 (b : Int) = true then (if (2 : Int) = -1 then some (rngD (a : Int) ((a : Int) - (b : Int)).toNat (-1)) else if (2 : Int) = 2 then some (rngD (a : Int) (((b : Int) - (a : Int) + 1) / 2).toNat 2) else none) else none) = _
  rw [if_pos ⟨h1, h2⟩, if_neg (by decide), if_pos rfl, this]
  refine congrArg some ?_
  unfold rngD iN by2
  rw [List.map_map]
  refine List.map_congr_left fun k _ => ?_
  refine congrArg D.int ?_
  show (a : Int) + (k : Int) * 2 = ((a + k * 2 : Nat) : Int)
  omega
end DL
set_option Elab.async false
set_option linter.all false
set_option maxRecDepth 100000
set_option maxHeartbeats 2000000
namespace DL
open PySem PySem.Spec PyProof.Rows L2
/-! ### rules of reckoning, for simp -/
section
variable {env : En} {f g h : En → R D} {t u : En → R Bool} {ga : En → R (List D)} {F G : En → Fl} {d : D} {s : Sl} {i j n m : Nat}
@[simp] theorem val_un : Sl.un.val = none := nr rfl
@[simp] theorem val_sh : (Sl.sh d).val = some d := nr rfl
@[simp] theorem val_ow : (Sl.ow d).val = some d := nr rfl
@[simp] theorem look_zero : look (s :: env) 0 = s.val := nr rfl
@[simp] theorem look_succ : look (s :: env) (n + 1) = look env n := nr rfl
@[simp] theorem ofR_some {a : Type} (x : a) : R.of (some x) = .ok x := nr rfl
@[simp] theorem ofR_none {a : Type} : R.of (none : Option a) = .no := nr rfl
@[simp] theorem eVar_eq : eVar i env = R.of (look env i) := nr rfl
@[simp] theorem eC_eq : eC d env = .ok d := nr rfl
@[simp] theorem eNil_eq : eNil env = .ok [] := nr rfl
@[simp] theorem eCons_eq : eCons f ga env = f env >>= fun d => ga env >>= fun ds => .ok (d :: ds) := nr rfl
@[simp] theorem eOp_eq {P : D → D → Option D} : eOp P f g env = f env >>= fun x => g env >>= fun y => R.of (P x y) := nr rfl
@[simp] theorem eB_eq : eB f env = f env >>= fun d => R.of (asB d) := nr rfl
@[simp] theorem asB_bl (b : Bool) : asB (.bl b) = some b := nr rfl
@[simp] theorem eTru_eq : eTru f env = f env >>= fun d => R.of (truB d) := nr rfl
@[simp] theorem eCh_eq {P Q : D → D → Option D} : eCh P Q f g h env = f env >>= fun x => g env >>= fun y => R.of (P x y) >>= fun c => R.of (asB c) >>= fun c => if c = true then h env >>= fun z => R.of (Q y z) else .ok (.bl false) := nr rfl
@[simp] theorem eImm_eq : eImm f env = f env >>= fun d => R.of (if imm d = true then some d else none) := nr rfl
@[simp] theorem eTop_eq : eTop f env = f env >>= fun d => R.of (if immTop d = true then some d else none) := nr rfl
@[simp] theorem eCall_eq {P : List D → Option D} : eCall P ga env = ga env >>= fun ds => R.of (P ds) := nr rfl
@[simp] theorem eCallF_eq {P : List D → R D} : eCallF n P ga env = ga env >>= fun ds => if ds.length = n then P ds else .no := nr rfl
@[simp] theorem eNone_eq : eNone env = .ok none := nr rfl
@[simp] theorem ePart_eq : ePart f env = f env >>= fun d => R.of (asPart d) := nr rfl
@[simp] theorem asPart_int (i : Int) : asPart (.int i) = some (some i) := nr rfl
@[simp] theorem eSl_eq {p q : En → R (Option Int)} : eSl f p q env = f env >>= fun c => p env >>= fun lo => q env >>= fun hi => R.of (sliceD c lo hi) := nr rfl
@[simp] theorem eAndT_eq : eAndT t u env = t env >>= fun c => if c = true then u env else .ok false := nr rfl
@[simp] theorem eOrT_eq : eOrT t u env = t env >>= fun c => if c = true then .ok true else u env := nr rfl
@[simp] theorem eNotT_eq : eNotT t env = t env >>= fun c => .ok (!c) := nr rfl
@[simp] theorem eRange_eq {P : List D → Option (List D)} : eRange P ga env = ga env >>= fun ds => R.of (P ds) := nr rfl
@[simp] theorem eIter_eq : eIter f env = f env >>= fun d => R.of (iterD d) := nr rfl
@[simp] theorem eRev_eq : eRev f env = f env >>= fun d => R.of (revD d) := nr rfl
@[simp] theorem eYes_eq : eYes env = .ok true := nr rfl
@[simp] theorem eLst_eq : eLst ga env = ga env >>= fun ds => R.of (if ds.length ≤ sizeLine then some (.lst ds) else none) := nr rfl
@[simp] theorem eTup_eq : eTup ga env = ga env >>= fun ds => R.of (if ds.length ≤ sizeLine then some (.tup ds) else none) := nr rfl
@[simp] theorem eAnd_eq : eAnd f g env = f env >>= fun d => R.of (asB d) >>= fun c => if c = true then g env else .ok (.bl false) := nr rfl
@[simp] theorem eOr_eq : eOr f g env = f env >>= fun d => R.of (asB d) >>= fun c => if c = true then .ok (.bl true) else g env := nr rfl
@[simp] theorem eNot_eq : eNot f env = f env >>= fun d => R.of (asB d) >>= fun c => .ok (.bl (!c)) := nr rfl
@[simp] theorem eNeg_eq : eNeg f env = f env >>= fun d => match d with
  | .int i => .ok (.int (-i))
  | _ => .no := nr rfl
@[simp] theorem eIf_eq {c : Type} {x y : En → R c} : eIf t x y env = t env >>= fun b => if b = true then x env else y env := nr rfl
@[simp] theorem sSeq_eq : sSeq F G env = (match F env with
  | .nx e => G e
  | r => r) := nr rfl
@[simp] theorem sNil_eq : sNil env = .nx env := nr rfl
@[simp] theorem sIf_eq : sIf t F G env = onE (t env) env fun b => if b = true then F env else G env := nr rfl
@[simp] theorem sRet_eq : sRet f env = onE (f env) env fun d => .rt d := nr rfl
@[simp] theorem sSetF_eq : sSetF i f env = onE (f env) env fun d => if i < env.length then .nx (env.set i (.ow d)) else .no := nr rfl
@[simp] theorem sSetI_eq : sSetI i f env = onE (f env) env fun d => if imm d = true ∧ i < env.length then .nx (env.set i (.ow d)) else .no := nr rfl
@[simp] theorem sSetS_eq : sSetS i f env = onE (f (env.map hideS)) env fun d => if i < env.length then .nx (env.set i (.sh d)) else .no := nr rfl
@[simp] theorem sPutF_eq {T : Tg} : sPutF T f env = onE (f env) env fun d => sPut T d env := nr rfl
@[simp] theorem sPutS_eq {T : Tg} : sPutS T f env = onE (f (env.map hideS)) env fun d => sPut T d env := nr rfl
@[simp] theorem sDrop_eq : sDrop f env = onE (f env) env fun _ => .nx env := nr rfl
@[simp] theorem sRaise_eq (c : Str) : sRaise c env = .ex c env := nr rfl
@[simp] theorem put_nm : put (.nm i) d env = if i < env.length then some (env.set i (.sh d)) else none := by simp [put]
@[simp] theorem sAppI_eq : sAppI i f env = onList i env fun xs => onE (f env) env fun d => if imm d = true then appL i xs d env else .no := nr rfl
@[simp] theorem sExtI_eq : sExtI i f env = onList i env fun xs => onE (f env) env fun d => if immTop d = true then extL i xs d env else .no := nr rfl
@[simp] theorem sForF_eq {T : Tg} {fi : En → R (List D)} : sForF T fi F env = onE (fi env) env fun ds => loop T F ds env := nr rfl
@[simp] theorem hide_un : hideS .un = .un := nr rfl
@[simp] theorem hide_sh : hideS (.sh d) = .sh d := nr rfl
@[simp] theorem hide_ow : hideS (.ow d) = .un := nr rfl
@[simp] theorem imm_int (k : Int) : imm (.int k) = true := by simp [imm]
@[simp] theorem imm_bl (k : Bool) : imm (.bl k) = true := by simp [imm]
@[simp] theorem imm_non : imm .non = true := by simp [imm]
@[simp] theorem imm_str (k : Str) : imm (.str k) = true := by simp [imm]
@[simp] theorem immTop_lst (l : List D) : immTop (.lst l) = immAll l := nr rfl
@[simp] theorem immTop_tup (l : List D) : immTop (.tup l) = immAll l := nr rfl
@[simp] theorem immTop_int (k : Int) : immTop (.int k) = true := by simp [immTop]
@[simp] theorem immAll_nil : immAll [] = true := by simp [immAll]
@[simp] theorem immAll_cons (l : List D) : immAll (d :: l) = (imm d && immAll l) := by simp [immAll]
@[simp] theorem immTop_tN (l : List Nat) : immTop (tN l) = true := by
  have := imm_tN l
  simpa [tN, imm, immTop] using this
@[simp] theorem immAll_tN (l : List (List Nat)) : immAll (l.map tN) = true := by simp [immAll_all]
@[simp] theorem add_int (a b : Int) : addD (.int a) (.int b) = some (.int (a + b)) := nr rfl
@[simp] theorem sub_int (a b : Int) : subD (.int a) (.int b) = some (.int (a - b)) := nr rfl
@[simp] theorem mod_int (a b : Int) : modD (.int a) (.int b) = if 0 < b then some (.int (a % b)) else none := nr rfl
@[simp] theorem lt_int (a b : Int) : ltD (.int a) (.int b) = some (.bl (decide (a < b))) := nr rfl
@[simp] theorem le_int (a b : Int) : leD (.int a) (.int b) = some (.bl (decide (a ≤ b))) := nr rfl
@[simp] theorem gt_int (a b : Int) : gtD (.int a) (.int b) = some (.bl (decide (b < a))) := nr rfl
@[simp] theorem ge_int (a b : Int) : geD (.int a) (.int b) = some (.bl (decide (b ≤ a))) := nr rfl
@[simp] theorem in_eq (x c : D) : inD x c = (inB x c).map .bl := nr rfl
@[simp] theorem nin_eq (x c : D) : ninD x c = (inB x c).map fun b => .bl (!b) := nr rfl
@[simp] theorem iter_lst (l : List D) : iterD (.lst l) = some l := nr rfl
@[simp] theorem iter_tup (l : List D) : iterD (.tup l) = some l := nr rfl
@[simp] theorem iter_fz (l : List D) : iterD (.fz l) = some l := nr rfl
@[simp] theorem iter_tN (l : List Nat) : iterD (tN l) = some (iN l) := nr rfl
@[simp] theorem int_int (a : Int) : intF [.int a] = some (.int a) := nr rfl
@[simp] theorem is_non (d : D) : isD d .non = some (.bl (match d with | .non => true | _ => false)) := nr rfl
@[simp] theorem isn_non (d : D) : isnD d .non = some (.bl (match d with | .non => false | _ => true)) := nr rfl
end
@[simp] theorem line1 : 1 ≤ sizeLine := by rw [sizeLine_val]; decide
@[simp] theorem line2 : 2 ≤ sizeLine := by rw [sizeLine_val]; decide
@[simp] theorem line3 : 3 ≤ sizeLine := by rw [sizeLine_val]; decide
@[simp] theorem line4 : 4 ≤ sizeLine := by rw [sizeLine_val]; decide
@[simp] theorem line5 : 5 ≤ sizeLine := by rw [sizeLine_val]; decide
@[simp] theorem line10 : 10 ≤ sizeLine := by rw [sizeLine_val]; decide
/-- n is this many: a number beyond no line -/
theorem small_line {n : Nat} (h : n ≤ 1000000) : n ≤ sizeLine := by rw [sizeLine_val]; omega
theorem one_line : (1 : Nat) ≤ sizeLine := by rw [sizeLine_val]; decide
@[simp] theorem lens_line : ([] : List D).length ≤ sizeLine := Nat.zero_le _
end DL
set_option Elab.async false
set_option linter.all false
set_option maxRecDepth 100000
set_option maxHeartbeats 4000000
namespace LW
open PySem PySem.Spec PyProof.Rows L2 DL
def top (i : Nat) : Stmt := PySem.Challenge.pw_hedgeways_k69_whole_labyrinths_listed.main.body.getD i (.Pass ⟨0, 0, 0, 0⟩)
abbrev s_law_draws_u : Stmt := top 21
abbrev N_law_draws_u : List Str := ["script", "many", "draws", "seed", "cell", "k", "number"]
def g_law_draws_u : En → Fl := (sSeq (sSetF 2 (eTop (eLst eNil)))
  (sSeq (sSetI 3 (eC (.int 7)))
  (sSeq (sForF (.nm 4) (eIter (eTop (eSl (eVar 0) eNone (ePart (eC (.int 63))))))
  (sSeq (sSetI 6 (eCall absF (eCons (eVar 4) eNil)))
  (sSeq (sSetI 3 (eOp modD (eCall intF (eCons (eOp addD (eOp addD (eOp mulD (eVar 3) (eC (.int 48271))) (eVar 6)) (eC (.int 11))) eNil)) (eC (.int 2147483647))))
  (sIf (eB (eOp geD (eVar 6) (eOp powD (eC (.int 10)) (eC (.int 18))))) (sForF (.nm 5) (eRange rangeF1 (eCons (eC (.int 60)) eNil))
  (sIf (eB (eOp gtD (eVar 6) (eC (.int 0)))) (sSeq (sAppI 2 (eOp modD (eCall intF (eCons (eVar 6) eNil)) (eC (.int 1009))))
  (sSetI 6 (eOp fdivD (eVar 6) (eC (.int 1009))))) sNil)) (sAppI 2 (eOp modD (eOp fdivD (eCall intF (eCons (eOp addD (eOp mulD (eVar 3) (eC (.int 16807))) (eC (.int 5))) eNil)) (eC (.int 3))) (eC (.int 65521))))))))
  (sSeq (sForF (.nm 5) (eRange rangeF1 (eCons (eVar 1) eNil))
  (sIf (eB (eOp ltD (eCall lenF (eCons (eVar 2) eNil)) (eVar 1))) (sSeq (sSetI 3 (eOp modD (eCall intF (eCons (eOp addD (eOp addD (eOp mulD (eVar 3) (eC (.int 69621))) (eVar 5)) (eC (.int 1))) eNil)) (eC (.int 2147483647))))
  (sAppI 2 (eOp modD (eOp fdivD (eCall intF (eCons (eVar 3) eNil)) (eC (.int 7))) (eC (.int 65521))))) sNil))
  (sRet (eTop (eSl (eVar 2) eNone (ePart (eVar 1)))))))))
def f_law_draws_u : List D → R D := runD 2 7 g_law_draws_u
abbrev s_law_fits_u : Stmt := top 23
abbrev N_law_fits_u : List Str := ["row", "level", "k", "low", "high", "end"]
def g_law_fits_u : En → Fl := (sSeq (sPutF (.tp [(.nm 3), (.nm 4)]) (eTop (eTup (eCons (eCall minF (eCons (eOp idxD (eVar 0) (eNeg (eC (.int 1)))) (eCons (eVar 1) eNil))) (eCons (eCall maxF (eCons (eOp idxD (eVar 0) (eNeg (eC (.int 1)))) (eCons (eVar 1) eNil))) eNil)))))
  (sSeq (sForF (.nm 2) (eRange rangeF3 (eCons (eOp modD (eOp subD (eCall lenF (eCons (eVar 0) eNil)) (eC (.int 1))) (eC (.int 2))) (eCons (eOp subD (eCall lenF (eCons (eVar 0) eNil)) (eC (.int 1))) (eCons (eC (.int 2)) eNil))))
  (sIf (eB (eOp eqD (eCall lenF (eCons (eComp [5] (.nm 5) (eIter (eSl (eVar 0) (ePart (eVar 2)) (ePart (eOp addD (eVar 2) (eC (.int 2)))))) (eB (eCh ltD ltD (eVar 3) (eVar 5) (eVar 4))) (eVar 5)) eNil)) (eC (.int 1)))) (sRet (eImm (eC (.bl false)))) sNil))
  (sRet (eImm (eC (.bl true))))))
def f_law_fits_u : List D → R D := runD 2 6 g_law_fits_u
abbrev s_law_all_u : Stmt := top 22
abbrev N_law_all_u : List Str := ["many", "rows", "turn", "later", "row", "level"]
def g_law_all_u : En → Fl := (sSeq (sSetF 1 (eTop (eLst (eCons (eTup (eCons (eC (.int 0)) eNil)) eNil))))
  (sSeq (sForF (.nm 2) (eRange rangeF1 (eCons (eVar 0) eNil))
  (sSeq (sSetF 3 (eTop (eLst eNil)))
  (sSeq (sForS [1] (.nm 4) (eIter (eVar 1))
  (sExtI 3 (eComp [5] (.nm 5) (eRange rangeF2 (eCons (eC (.int 1)) (eCons (eOp addD (eVar 0) (eC (.int 1))) eNil))) (eAndT (eB (eOp ninD (eVar 5) (eVar 4))) (eAndT (eB (eOp neD (eOp modD (eVar 5) (eC (.int 2))) (eOp modD (eOp idxD (eVar 4) (eNeg (eC (.int 1)))) (eC (.int 2))))) (eB (eCallF 2 f_law_fits_u (eCons (eVar 4) (eCons (eVar 5) eNil)))))) (eOp addD (eVar 4) (eTup (eCons (eVar 5) eNil))))))
  (sSetN 1 3))))
  (sRet (eTop (eComp [4] (.nm 4) (eIter (eVar 1)) (eAndT (eB (eOp neD (eOp modD (eOp addD (eVar 0) (eC (.int 1))) (eC (.int 2))) (eOp modD (eOp idxD (eVar 4) (eNeg (eC (.int 1)))) (eC (.int 2))))) (eB (eCallF 2 f_law_fits_u (eCons (eVar 4) (eCons (eOp addD (eVar 0) (eC (.int 1))) eNil))))) (eOp addD (eVar 4) (eTup (eCons (eOp addD (eVar 0) (eC (.int 1))) eNil))))))))
def f_law_all_u : List D → R D := runD 1 6 g_law_all_u
abbrev s_is_whole : Stmt := top 5
abbrev N_is_whole : List Str := ["value", "least", "most"]
def g_is_whole : En → Fl := (sRet (eImm (eAnd (eCall isiF (eCons (eVar 0) (eCons (eC (.ty "int")) eNil))) (eAnd (eNot (eCall isiF (eCons (eVar 0) (eCons (eC (.ty "bool")) eNil)))) (eCh leD leD (eVar 1) (eVar 0) (eVar 2))))))
def f_is_whole : List D → R D := runD 3 3 g_is_whole
abbrev s_check_many_u : Stmt := top 13
abbrev N_check_many_u : List Str := ["many", "most"]
def g_check_many_u : En → Fl := (sIf (eNotT (eB (eCallF 3 f_is_whole (eCons (eVar 0) (eCons (eC (.int 0)) (eCons (eVar 1) eNil)))))) (sRaise "BadLevels") sNil)
def f_check_many_u : List D → R D := runD 2 2 g_check_many_u
abbrev s_crosses_u : Stmt := top 10
abbrev N_crosses_u : List Str := ["order", "first", "second", "low", "high"]
def g_crosses_u : En → Fl := (sSeq (sPutF (.tp [(.nm 3), (.nm 4)]) (eTop (eCall sortF (eCons (eSl (eVar 0) (ePart (eVar 1)) (ePart (eOp addD (eVar 1) (eC (.int 2))))) eNil))))
  (sRet (eImm (eOp neD (eCh ltD ltD (eVar 3) (eOp idxD (eVar 0) (eVar 2)) (eVar 4)) (eCh ltD ltD (eVar 3) (eOp idxD (eVar 0) (eOp addD (eVar 2) (eC (.int 1)))) (eVar 4))))))
def f_crosses_u : List D → R D := runD 3 5 g_crosses_u
abbrev s_longer_u : Stmt := top 14
abbrev N_longer_u : List Str := ["order", "many", "found", "level", "longer", "last", "step"]
def g_longer_u : En → Fl := (sSeq (sSetF 2 (eTop (eLst eNil)))
  (sSeq (sForF (.nm 3) (eRange rangeF2 (eCons (eC (.int 1)) (eCons (eOp addD (eVar 1) (eC (.int 1))) eNil)))
  (sIf (eAndT (eB (eOp ninD (eVar 3) (eVar 0))) (eB (eOp eqD (eOp modD (eOp subD (eVar 3) (eOp idxD (eVar 0) (eNeg (eC (.int 1))))) (eC (.int 2))) (eC (.int 1))))) (sSeq (sSetI 4 (eOp addD (eVar 0) (eTup (eCons (eVar 3) eNil))))
  (sSeq (sSetI 5 (eOp subD (eCall lenF (eCons (eVar 4) eNil)) (eC (.int 2))))
  (sIf (eNotT (eB (eCall anyF (eCons (eComp [6] (.nm 6) (eRange rangeF3 (eCons (eOp modD (eVar 5) (eC (.int 2))) (eCons (eVar 5) (eCons (eC (.int 2)) eNil)))) eYes (eCallF 3 f_crosses_u (eCons (eVar 4) (eCons (eVar 6) (eCons (eVar 5) eNil))))) eNil)))) (sAppI 2 (eVar 4)) sNil))) sNil))
  (sRetV 2)))
def f_longer_u : List D → R D := runD 2 7 g_longer_u
abbrev s_is_form_u : Stmt := top 9
abbrev N_is_form_u : List Str := ["value", "level"]
def g_is_form_u : En → Fl := (sSeq (sIf (eOrT (eNotT (eB (eCall isiF (eCons (eVar 0) (eCons (eC (.ty "tuple")) eNil))))) (eNotT (eB (eCh leD leD (eC (.int 2)) (eCall lenF (eCons (eVar 0) eNil)) (eOp addD (eC (.int 12)) (eC (.int 2))))))) (sRet (eImm (eC (.bl false)))) sNil)
  (sSeq (sIf (eOrT (eNotT (eB (eCall allF (eCons (eComp [1] (.nm 1) (eIter (eVar 0)) eYes (eCallF 3 f_is_whole (eCons (eVar 1) (eCons (eC (.int 0)) (eCons (eOp subD (eCall lenF (eCons (eVar 0) eNil)) (eC (.int 1))) eNil))))) eNil)))) (eB (eOp neD (eCall sortF (eCons (eVar 0) eNil)) (eCall lrgF1 (eCons (eCall lenF (eCons (eVar 0) eNil)) eNil))))) (sRet (eImm (eC (.bl false)))) sNil)
  (sRet (eImm (eAnd (eOp eqD (eOp idxD (eVar 0) (eC (.int 0))) (eC (.int 0))) (eOp eqD (eOp idxD (eVar 0) (eNeg (eC (.int 1)))) (eOp subD (eCall lenF (eCons (eVar 0) eNil)) (eC (.int 1)))))))))
def f_is_form_u : List D → R D := runD 1 2 g_is_form_u
abbrev s_order_fault : Stmt := top 11
abbrev N_order_fault : List Str := ["value", "step", "first", "second"]
def g_order_fault : En → Fl := (sSeq (sIf (eNotT (eB (eCallF 1 f_is_form_u (eCons (eVar 0) eNil)))) (sRet (eTop (eTup (eCons (eC (.str "form")) eNil)))) sNil)
  (sSeq (sForF (.nm 1) (eRange rangeF1 (eCons (eOp subD (eCall lenF (eCons (eVar 0) eNil)) (eC (.int 1))) eNil))
  (sIf (eB (eOp eqD (eOp modD (eOp subD (eOp idxD (eVar 0) (eVar 1)) (eOp idxD (eVar 0) (eOp addD (eVar 1) (eC (.int 1))))) (eC (.int 2))) (eC (.int 0)))) (sRet (eTop (eTup (eCons (eC (.str "turn")) (eCons (eVar 1) eNil))))) sNil))
  (sSeq (sForF (.nm 2) (eRange rangeF1 (eCons (eOp subD (eCall lenF (eCons (eVar 0) eNil)) (eC (.int 1))) eNil))
  (sForF (.nm 3) (eRange rangeF3 (eCons (eOp addD (eVar 2) (eC (.int 2))) (eCons (eOp subD (eCall lenF (eCons (eVar 0) eNil)) (eC (.int 1))) (eCons (eC (.int 2)) eNil))))
  (sIf (eB (eCallF 3 f_crosses_u (eCons (eVar 0) (eCons (eVar 2) (eCons (eVar 3) eNil))))) (sRet (eTop (eTup (eCons (eC (.str "crossing")) (eCons (eVar 2) (eCons (eVar 3) eNil)))))) sNil)))
  (sRet (eImm (eC .non))))))
def f_order_fault : List D → R D := runD 1 4 g_order_fault
abbrev s_listed_u : Stmt := top 15
abbrev N_listed_u : List Str := ["many", "rows", "_level", "whole", "later", "row"]
def g_listed_u : En → Fl := (sSeq (sSetF 1 (eTop (eLst (eCons (eTup (eCons (eC (.int 0)) eNil)) eNil))))
  (sSeq (sForF (.nm 2) (eRange rangeF1 (eCons (eVar 0) eNil))
  (sSeq (sSetF 4 (eTop (eLst eNil)))
  (sSeq (sForS [1] (.nm 5) (eIter (eVar 1))
  (sExtI 4 (eCallF 2 f_longer_u (eCons (eVar 5) (eCons (eVar 0) eNil)))))
  (sSetN 1 4))))
  (sSeq (sSetF 3 (eTop (eComp [5] (.nm 5) (eIter (eVar 1)) eYes (eOp addD (eVar 5) (eTup (eCons (eOp addD (eVar 0) (eC (.int 1))) eNil))))))
  (sRet (eTop (eComp [5] (.nm 5) (eIter (eVar 3)) (eB (eOp isD (eCallF 1 f_order_fault (eCons (eVar 5) eNil)) (eC .non))) (eVar 5)))))))
def f_listed_u : List D → R D := runD 1 6 g_listed_u
abbrev s_labyrinths : Stmt := top 16
abbrev N_labyrinths : List Str := ["many"]
def g_labyrinths : En → Fl := (sSeq (sDrop (eCallF 2 f_check_many_u (eCons (eVar 0) (eCons (eC (.int 9)) eNil))))
  (sRet (eCallF 1 f_listed_u (eCons (eVar 0) eNil))))
def f_labyrinths : List D → R D := runD 1 1 g_labyrinths
abbrev s_count_labyrinths : Stmt := top 17
abbrev N_count_labyrinths : List Str := ["many"]
def g_count_labyrinths : En → Fl := (sSeq (sDrop (eCallF 2 f_check_many_u (eCons (eVar 0) (eCons (eC (.int 12)) eNil))))
  (sRet (eImm (eCall lenF (eCons (eCallF 1 f_listed_u (eCons (eVar 0) eNil)) eNil)))))
def f_count_labyrinths : List D → R D := runD 1 1 g_count_labyrinths
abbrev s_labyrinth : Stmt := top 18
abbrev N_labyrinth : List Str := ["many", "number", "found"]
def g_labyrinth : En → Fl := (sSeq (sDrop (eCallF 2 f_check_many_u (eCons (eVar 0) (eCons (eC (.int 9)) eNil))))
  (sSeq (sSetF 2 (eCallF 1 f_listed_u (eCons (eVar 0) eNil)))
  (sSeq (sIf (eNotT (eB (eCallF 3 f_is_whole (eCons (eVar 1) (eCons (eC (.int 0)) (eCons (eOp subD (eCall lenF (eCons (eVar 2) eNil)) (eC (.int 1))) eNil)))))) (sRaise "BadLevels") sNil)
  (sRet (eImm (eOp idxD (eVar 2) (eVar 1)))))))
def f_labyrinth : List D → R D := runD 2 3 g_labyrinth
abbrev s_law_refused_u : Stmt := top 24
abbrev N_law_refused_u : List Str := ["call", "one", "two"]
def g_law_refused_u : En → Fl := (sSeq (sTry [("BadLevels", true)] (sIf (eB (eOp eqD (eVar 0) (eC (.int 0)))) (sDrop (eCallF 1 f_labyrinths (eCons (eVar 1) eNil))) (sIf (eB (eOp eqD (eVar 0) (eC (.int 1)))) (sDrop (eCallF 1 f_count_labyrinths (eCons (eVar 1) eNil))) (sDrop (eCallF 2 f_labyrinth (eCons (eVar 1) (eCons (eVar 2) eNil)))))) (sRet (eImm (eC (.bl true)))))
  (sRet (eImm (eC (.bl false)))))
def f_law_refused_u : List D → R D := runD 3 3 g_law_refused_u
abbrev s_check_order_u : Stmt := top 12
abbrev N_check_order_u : List Str := ["order"]
def g_check_order_u : En → Fl := (sIf (eB (eOp isnD (eCallF 1 f_order_fault (eCons (eVar 0) eNil)) (eC .non))) (sRaise "BadOrder") sNil)
def f_check_order_u : List D → R D := runD 1 1 g_check_order_u
abbrev s_turned_order : Stmt := top 19
abbrev N_turned_order : List Str := ["order", "level"]
def g_turned_order : En → Fl := (sSeq (sDrop (eCallF 1 f_check_order_u (eCons (eVar 0) eNil)))
  (sRet (eTop (eCall tupleF (eCons (eComp [1] (.nm 1) (eIter (eRev (eVar 0))) eYes (eOp subD (eOp idxD (eVar 0) (eNeg (eC (.int 1)))) (eVar 1))) eNil)))))
def f_turned_order : List D → R D := runD 1 2 g_turned_order
abbrev s_law : Stmt := top 25
abbrev N_law : List Str := ["script", "draws", "many", "due", "found", "number", "wrong", "order", "call"]
def g_law : En → Fl := (sSeq (sSetF 1 (eCallF 2 f_law_draws_u (eCons (eVar 0) (eCons (eC (.int 10)) eNil))))
  (sSeq (sSetI 2 (eOp modD (eCall intF (eCons (eOp idxD (eVar 1) (eC (.int 0))) eNil)) (eC (.int 8))))
  (sSeq (sIf (eB (eOp eqD (eOp modD (eCall intF (eCons (eOp idxD (eVar 1) (eC (.int 1))) eNil)) (eC (.int 12))) (eC (.int 0)))) (sSetI 2 (eOp addD (eC (.int 8)) (eOp modD (eCall intF (eCons (eOp idxD (eVar 1) (eC (.int 2))) eNil)) (eC (.int 2))))) sNil)
  (sSeq (sSetF 3 (eCallF 1 f_law_all_u (eCons (eVar 2) eNil)))
  (sSeq (sSetF 4 (eCallF 1 f_labyrinths (eCons (eVar 2) eNil)))
  (sSeq (sIf (eOrT (eB (eOp neD (eVar 4) (eVar 3))) (eOrT (eB (eOp neD (eCallF 1 f_count_labyrinths (eCons (eVar 2) eNil)) (eCall lenF (eCons (eVar 3) eNil)))) (eB (eOp neD (eCall lenF (eCons (eVar 3) eNil)) (eOp idxD (eTup (eCons (eC (.int 1)) (eCons (eC (.int 1)) (eCons (eC (.int 1)) (eCons (eC (.int 2)) (eCons (eC (.int 3)) (eCons (eC (.int 8)) (eCons (eC (.int 14)) (eCons (eC (.int 42)) (eCons (eC (.int 81)) (eCons (eC (.int 262)) eNil))))))))))) (eVar 2)))))) (sRet (eImm (eC (.bl false)))) sNil)
  (sSeq (sSetI 5 (eOp modD (eCall intF (eCons (eOp idxD (eVar 1) (eC (.int 3))) eNil)) (eCall lenF (eCons (eVar 3) eNil))))
  (sSeq (sIf (eOrT (eB (eOp neD (eCallF 2 f_labyrinth (eCons (eVar 2) (eCons (eVar 5) eNil))) (eOp idxD (eVar 3) (eVar 5)))) (eB (eOp isnD (eCallF 1 f_order_fault (eCons (eOp idxD (eVar 3) (eVar 5)) eNil)) (eC .non)))) (sRet (eImm (eC (.bl false)))) sNil)
  (sSeq (sIf (eB (eOp neD (eCall sortF (eCons (eComp [7] (.nm 7) (eIter (eVar 4)) eYes (eCallF 1 f_turned_order (eCons (eVar 7) eNil))) eNil)) (eVar 4))) (sRet (eImm (eC (.bl false)))) sNil)
  (sSeq (sIf (eAndT (eB (eOp eqD (eOp modD (eCall intF (eCons (eOp idxD (eVar 1) (eC (.int 4))) eNil)) (eC (.int 40))) (eC (.int 0)))) (eB (eOp neD (eCallF 1 f_count_labyrinths (eCons (eOp addD (eC (.int 10)) (eOp modD (eCall intF (eCons (eOp idxD (eVar 1) (eC (.int 5))) eNil)) (eC (.int 2)))) eNil)) (eOp idxD (eTup (eCons (eC (.int 538)) (eCons (eC (.int 1828)) eNil))) (eOp modD (eCall intF (eCons (eOp idxD (eVar 1) (eC (.int 5))) eNil)) (eC (.int 2))))))) (sRet (eImm (eC (.bl false)))) sNil)
  (sSeq (sForF (.nm 6) (eIter (eTop (eTup (eCons (eNeg (eC (.int 1))) (eCons (eC (.int 13)) (eCons (eC (.bl true)) (eCons (eC .non) (eCons (eC (.str "1")) eNil))))))))
  (sIf (eNotT (eB (eCall allF (eCons (eComp [8] (.nm 8) (eRange rangeF1 (eCons (eC (.int 3)) eNil)) eYes (eCallF 3 f_law_refused_u (eCons (eVar 8) (eCons (eVar 6) (eCons (eC (.int 0)) eNil))))) eNil)))) (sRet (eImm (eC (.bl false)))) sNil))
  (sRet (eImm (eAnd (eCallF 3 f_law_refused_u (eCons (eC (.int 0)) (eCons (eC (.int 10)) (eCons (eC (.int 0)) eNil)))) (eAnd (eCallF 3 f_law_refused_u (eCons (eC (.int 2)) (eCons (eC (.int 10)) (eCons (eC (.int 0)) eNil)))) (eCall allF (eCons (eComp [6] (.nm 6) (eIter (eTup (eCons (eNeg (eC (.int 1))) (eCons (eCall lenF (eCons (eVar 3) eNil)) (eCons (eC (.bl true)) (eCons (eC .non) eNil)))))) eYes (eCallF 3 f_law_refused_u (eCons (eC (.int 2)) (eCons (eVar 2) (eCons (eVar 6) eNil))))) eNil)))))))))))))))))
def f_law : List D → R D := runD 1 9 g_law
end LW
set_option Elab.async false
set_option linter.all false
set_option maxRecDepth 100000
set_option maxHeartbeats 4000000
namespace LW
open PySem PySem.Spec PyProof.Rows L2 DL

structure Facts (K : PySem.W.Frag) (mg : Str → Option Value) : Prop where
  b_abs : mg "abs" = none
  b_all : mg "all" = none
  b_any : mg "any" = none
  b_bool : mg "bool" = none
  b_int : mg "int" = none
  b_isinstance : mg "isinstance" = none
  b_len : mg "len" = none
  b_list : mg "list" = none
  b_max : mg "max" = none
  b_min : mg "min" = none
  b_range : mg "range" = none
  b_sorted : mg "sorted" = none
  b_tuple : mg "tuple" = none
  c_MOST_LEVELS : ∃ t, mg "MOST_LEVELS" = some (.int 12 t)
  c_MOST_LISTED : ∃ t, mg "MOST_LISTED" = some (.int 9 t)
  e_BadLevels : ExcD K mg "BadLevels"
  e_BadOrder : ExcD K mg "BadOrder"
  t_BadLevels_BadLevels : CatD K mg "BadLevels" "BadLevels" true
section
variable {P : Program} {w : World} {K : PySem.W.Frag} {mg : Str → Option Value} {base : Heap}
theorem sc_law_draws_u : FnScope N_law_draws_u ["script", "many"] (defScope s_law_draws_u) := ⟨rfl, rfl, rfl, by decide +kernel, rfl, by decide +kernel, by decide +kernel⟩
theorem ok_law_draws_u (B : Facts K mg) (r : RawD K mg "_law_draws" s_law_draws_u ["script", "many"])  : DefD P w K mg base 1 2 "_law_draws" f_law_draws_u :=
  okDD r sc_law_draws_u rfl fun f cdv A outer s H E hr tk => by
    unfold g_law_draws_u
    exact (dss_cons (ds_setF (DQ.df (dq_lst da_nil)) sc_law_draws_u.nd)
  (dss_cons (ds_setI de_int sc_law_draws_u.nd)
  (dss_cons (ds_forF (dif_any (DQ.df (dq_slice (de_var (pv 0)) dp_none (dp_some de_int)))) (dg_name sc_law_draws_u.nd)
  (dss_cons (ds_setI (DQ.de (dq_callB cr_abs B.b_abs bt_abs (da_cons (de_var (pv 4)) da_nil))) sc_law_draws_u.nd)
  (dss_cons (ds_setI (de_bin or_mod (DQ.de (dq_callTy cr_int B.b_int bt_int (da_cons (de_bin or_add (de_bin or_add (de_bin or_mul (de_var (pv 3)) de_int) (de_var (pv 6))) de_int) da_nil))) de_int) sc_law_draws_u.nd)
  (dss_one (ds_if (dt_cmp or_ge (de_var (pv 6)) (de_bin or_pow de_int de_int)) (dss_one (ds_forF (dif_rng1 B.b_range (da_cons de_int da_nil)) (dg_name sc_law_draws_u.nd)
  (dss_one (ds_if (dt_cmp or_gt (de_var (pv 6)) de_int) (dss_cons (ds_appI (de_bin or_mod (DQ.de (dq_callTy cr_int B.b_int bt_int (da_cons (de_var (pv 6)) da_nil))) de_int) (pv 2))
  (dss_one (ds_setI (de_bin or_fdiv (de_var (pv 6)) de_int) sc_law_draws_u.nd))) dss_nil)) (passes_of rfl))) (dss_one (ds_appI (de_bin or_mod (de_bin or_fdiv (DQ.de (dq_callTy cr_int B.b_int bt_int (da_cons (de_bin or_add (de_bin or_mul (de_var (pv 3)) de_int) de_int) da_nil))) de_int) de_int) (pv 2))))))) (passes_of rfl))
  (dss_cons (ds_forF (dif_rng1 B.b_range (da_cons (de_var (pv 1)) da_nil)) (dg_name sc_law_draws_u.nd)
  (dss_one (ds_if (dt_cmp (or_lt (hu0 hr)) (DQ.de (dq_callB cr_len B.b_len bt_len (da_cons (de_var (pv 2)) da_nil))) (de_var (pv 1))) (dss_cons (ds_setI (de_bin or_mod (DQ.de (dq_callTy cr_int B.b_int bt_int (da_cons (de_bin or_add (de_bin or_add (de_bin or_mul (de_var (pv 3)) de_int) (de_var (pv 5))) de_int) da_nil))) de_int) sc_law_draws_u.nd)
  (dss_one (ds_appI (de_bin or_mod (de_bin or_fdiv (DQ.de (dq_callTy cr_int B.b_int bt_int (da_cons (de_var (pv 3)) da_nil))) de_int) de_int) (pv 2)))) dss_nil)) (passes_of rfl))
  (dss_one (ds_ret (DQ.df (dq_slice (de_var (pv 2)) dp_none (dp_some (de_var (pv 1)))))))))))
theorem sc_law_fits_u : FnScope N_law_fits_u ["row", "level"] (defScope s_law_fits_u) := ⟨rfl, rfl, rfl, by decide +kernel, rfl, by decide +kernel, by decide +kernel⟩
theorem ok_law_fits_u (B : Facts K mg) (r : RawD K mg "_law_fits" s_law_fits_u ["row", "level"])  : DefD P w K mg base 1 2 "_law_fits" f_law_fits_u :=
  okDD r sc_law_fits_u rfl fun f cdv A outer s H E hr tk => by
    unfold g_law_fits_u
    exact (dss_cons (ds_putF (DQ.df (dq_tup (da_cons (DQ.de (dq_callB (cr_minD rfl) B.b_min bt_min (da_cons (de_ix (hu1 hr) (de_var (pv 0)) (de_neg de_int)) (da_cons (de_var (pv 1)) da_nil)))) (da_cons (DQ.de (dq_callB (cr_maxD rfl) B.b_max bt_max (da_cons (de_ix (hu1 hr) (de_var (pv 0)) (de_neg de_int)) (da_cons (de_var (pv 1)) da_nil)))) da_nil)))) (dg_tup (dgs_cons (dg_name sc_law_fits_u.nd) (dgs_cons (dg_name sc_law_fits_u.nd) dgs_nil))))
  (dss_cons (ds_forF (dif_rng3 B.b_range (da_cons (de_bin or_mod (de_bin or_sub (DQ.de (dq_callB cr_len B.b_len bt_len (da_cons (de_var (pv 0)) da_nil))) de_int) de_int) (da_cons (de_bin or_sub (DQ.de (dq_callB cr_len B.b_len bt_len (da_cons (de_var (pv 0)) da_nil))) de_int) (da_cons de_int da_nil)))) (dg_name sc_law_fits_u.nd)
  (dss_one (ds_if (dt_cmp (or_eq (hu64 hr)) (DQ.de (dq_callB cr_len B.b_len bt_len (da_cons (DQ.de (dq_comp (di_any (DQ.de (dq_slice (de_var (pv 0)) (dp_some (de_var (pv 2))) (dp_some (de_bin or_add (de_var (pv 2)) de_int))))) sc_law_fits_u.nd (blkOk_by (N := N_law_fits_u) (sc := defScope s_law_fits_u) (own := [("end", 5)]) (by decide +kernel)) (fun _ _ _ _ _ => (dg_name sc_law_fits_u.nd)) (fun _ _ _ _ _ => (dts_one (dt_chain (or_lt (hu0 hr)) (or_lt (hu0 hr)) (de_var (pv 3)) (de_var (pv 5)) (de_var (pv 4))))) (fun _ _ _ _ _ => (de_var (pv 5))))) da_nil))) de_int) (dss_one (ds_ret (df_imm de_bl))) dss_nil)) (passes_of rfl))
  (dss_one (ds_ret (df_imm de_bl)))))
theorem sc_law_all_u : FnScope N_law_all_u ["many"] (defScope s_law_all_u) := ⟨rfl, rfl, rfl, by decide +kernel, rfl, by decide +kernel, by decide +kernel⟩
theorem ok_law_all_u (B : Facts K mg) (r : RawD K mg "_law_all" s_law_all_u ["many"]) (D_law_fits_u : DefD P w K mg base 1 2 "_law_fits" f_law_fits_u) : DefD P w K mg base 2 1 "_law_all" f_law_all_u :=
  okDD r sc_law_all_u rfl fun f cdv A outer s H E hr tk => by
    unfold g_law_all_u
    exact (dss_cons (ds_setF (DQ.df (dq_lst (da_cons (DQ.de (dq_tup (da_cons de_int da_nil))) da_nil))) sc_law_all_u.nd)
  (dss_cons (ds_forF (dif_rng1 B.b_range (da_cons (de_var (pv 0)) da_nil)) (dg_name sc_law_all_u.nd)
  (dss_cons (ds_setF (DQ.df (dq_lst da_nil)) sc_law_all_u.nd)
  (dss_cons (ds_forS (di_any (de_var (pv 1))) (dg_name sc_law_all_u.nd)
  (dss_one (ds_extI (DQ.de (dq_comp (DIF.di (dif_rng2 B.b_range (da_cons de_int (da_cons (de_bin or_add (de_var (pv 0)) de_int) da_nil)))) sc_law_all_u.nd (blkOk_by (N := N_law_all_u) (sc := defScope s_law_all_u) (own := [("level", 5)]) (by decide +kernel)) (fun _ _ _ _ _ => (dg_name sc_law_all_u.nd)) (fun _ _ _ _ _ => (dts_one (PW.pt (dw_and (dt_cmp (or_nin (hu65 hr)) (de_var (pv 5)) (de_var (pv 4))) (dw_and (dt_cmp (or_ne (hu64 hr)) (de_bin or_mod (de_var (pv 5)) de_int) (de_bin or_mod (de_ix (hu1 hr) (de_var (pv 4)) (de_neg de_int)) de_int)) (dw_and1 (dt_val (DF.de (df_call D_law_fits_u hr (by decide) takes0 (da_cons (de_var (pv 4)) (da_cons (de_var (pv 5)) da_nil))))))))))) (fun _ _ _ _ _ => (de_bin or_add (de_var (pv 4)) (DQ.de (dq_tup (da_cons (de_var (pv 5)) da_nil))))))) (pv 3))) (passes_of rfl))
  (dss_one (ds_setN (pv 3) sc_law_all_u.nd)))) (passes_of rfl))
  (dss_one (ds_ret (DQ.df (dq_comp (di_any (de_var (pv 1))) sc_law_all_u.nd (blkOk_by (N := N_law_all_u) (sc := defScope s_law_all_u) (own := [("row", 4)]) (by decide +kernel)) (fun _ _ _ _ _ => (dg_name sc_law_all_u.nd)) (fun _ _ _ _ _ => (dts_one (PW.pt (dw_and (dt_cmp (or_ne (hu64 hr)) (de_bin or_mod (de_bin or_add (de_var (pv 0)) de_int) de_int) (de_bin or_mod (de_ix (hu1 hr) (de_var (pv 4)) (de_neg de_int)) de_int)) (dw_and1 (dt_val (DF.de (df_call D_law_fits_u hr (by decide) takes0 (da_cons (de_var (pv 4)) (da_cons (de_bin or_add (de_var (pv 0)) de_int) da_nil)))))))))) (fun _ _ _ _ _ => (de_bin or_add (de_var (pv 4)) (DQ.de (dq_tup (da_cons (de_bin or_add (de_var (pv 0)) de_int) da_nil)))))))))))
theorem sc_is_whole : FnScope N_is_whole ["value", "least", "most"] (defScope s_is_whole) := ⟨rfl, rfl, rfl, by decide +kernel, rfl, by decide +kernel, by decide +kernel⟩
theorem ok_is_whole (B : Facts K mg) (r : RawD K mg "is_whole" s_is_whole ["value", "least", "most"])  : DefD P w K mg base 1 3 "is_whole" f_is_whole :=
  okDD r sc_is_whole rfl fun f cdv A outer s H E hr tk => by
    unfold g_is_whole
    exact (dss_one (ds_ret (df_imm (de_and (DQ.de (dq_callB cr_isi B.b_isinstance bt_isinstance (da_cons (de_var (pv 0)) (da_cons (de_ty B.b_int bt_int) da_nil)))) (de_and (de_not (DQ.de (dq_callB cr_isi B.b_isinstance bt_isinstance (da_cons (de_var (pv 0)) (da_cons (de_ty B.b_bool bt_bool) da_nil))))) (de_one (de_chain or_le or_le (de_var (pv 1)) (de_var (pv 0)) (de_var (pv 2)))))))))
theorem sc_check_many_u : FnScope N_check_many_u ["many", "most"] (defScope s_check_many_u) := ⟨rfl, rfl, rfl, by decide +kernel, rfl, by decide +kernel, by decide +kernel⟩
theorem ok_check_many_u (B : Facts K mg) (r : RawD K mg "_check_many" s_check_many_u ["many", "most"]) (D_is_whole : DefD P w K mg base 1 3 "is_whole" f_is_whole) : DefD P w K mg base 2 2 "_check_many" f_check_many_u :=
  okDD r sc_check_many_u rfl fun f cdv A outer s H E hr tk => by
    unfold g_check_many_u
    exact (dss_one (ds_if (dt_not (dt_val (DF.de (df_call D_is_whole hr (by decide) tk (da_cons (de_var (pv 0)) (da_cons de_int (da_cons (de_var (pv 1)) da_nil))))))) (dss_one (ds_raiseD B.e_BadLevels tk)) dss_nil))
theorem sc_crosses_u : FnScope N_crosses_u ["order", "first", "second"] (defScope s_crosses_u) := ⟨rfl, rfl, rfl, by decide +kernel, rfl, by decide +kernel, by decide +kernel⟩
theorem ok_crosses_u (B : Facts K mg) (r : RawD K mg "_crosses" s_crosses_u ["order", "first", "second"])  : DefD P w K mg base 1 3 "_crosses" f_crosses_u :=
  okDD r sc_crosses_u rfl fun f cdv A outer s H E hr tk => by
    unfold g_crosses_u
    exact (dss_cons (ds_putF (DQ.df (dq_callB (cr_sortedD (hu64 hr)) B.b_sorted bt_sorted (da_cons (DQ.de (dq_slice (de_var (pv 0)) (dp_some (de_var (pv 1))) (dp_some (de_bin or_add (de_var (pv 1)) de_int)))) da_nil))) (dg_tup (dgs_cons (dg_name sc_crosses_u.nd) (dgs_cons (dg_name sc_crosses_u.nd) dgs_nil))))
  (dss_one (ds_ret (df_imm (de_cmp (or_ne (hu64 hr)) (de_chain (or_lt (hu0 hr)) (or_lt (hu0 hr)) (de_var (pv 3)) (de_ix (hu1 hr) (de_var (pv 0)) (de_var (pv 2))) (de_var (pv 4))) (de_chain (or_lt (hu0 hr)) (or_lt (hu0 hr)) (de_var (pv 3)) (de_ix (hu1 hr) (de_var (pv 0)) (de_bin or_add (de_var (pv 2)) de_int)) (de_var (pv 4))))))))
theorem sc_longer_u : FnScope N_longer_u ["order", "many"] (defScope s_longer_u) := ⟨rfl, rfl, rfl, by decide +kernel, rfl, by decide +kernel, by decide +kernel⟩
theorem ok_longer_u (B : Facts K mg) (r : RawD K mg "_longer" s_longer_u ["order", "many"]) (D_crosses_u : DefD P w K mg base 1 3 "_crosses" f_crosses_u) : DefD P w K mg base 2 2 "_longer" f_longer_u :=
  okDD r sc_longer_u rfl fun f cdv A outer s H E hr tk => by
    unfold g_longer_u
    exact (dss_cons (ds_setF (DQ.df (dq_lst da_nil)) sc_longer_u.nd)
  (dss_cons (ds_forF (dif_rng2 B.b_range (da_cons de_int (da_cons (de_bin or_add (de_var (pv 1)) de_int) da_nil))) (dg_name sc_longer_u.nd)
  (dss_one (ds_if (PW.pt (dw_and (dt_cmp (or_nin (hu65 hr)) (de_var (pv 3)) (de_var (pv 0))) (dw_and1 (dt_cmp (or_eq (hu64 hr)) (de_bin or_mod (de_bin or_sub (de_var (pv 3)) (de_ix (hu1 hr) (de_var (pv 0)) (de_neg de_int))) de_int) de_int)))) (dss_cons (ds_setI (de_bin or_add (de_var (pv 0)) (DQ.de (dq_tup (da_cons (de_var (pv 3)) da_nil)))) sc_longer_u.nd)
  (dss_cons (ds_setI (de_bin or_sub (DQ.de (dq_callB cr_len B.b_len bt_len (da_cons (de_var (pv 4)) da_nil))) de_int) sc_longer_u.nd)
  (dss_one (ds_if (dt_not (dt_val (DQ.de (dq_callB (cr_anyD rfl) B.b_any bt_any (da_cons (DQ.de (dq_comp (DIF.di (dif_rng3 B.b_range (da_cons (de_bin or_mod (de_var (pv 5)) de_int) (da_cons (de_var (pv 5)) (da_cons de_int da_nil))))) sc_longer_u.nd (blkOk_by (N := N_longer_u) (sc := defScope s_longer_u) (own := [("step", 6)]) (by decide +kernel)) (fun _ _ _ _ _ => (dg_name sc_longer_u.nd)) (fun _ _ _ _ _ => dts_nil) (fun _ _ _ _ _ => (DF.de (df_call D_crosses_u hr (by decide) takes0 (da_cons (de_var (pv 4)) (da_cons (de_var (pv 6)) (da_cons (de_var (pv 5)) da_nil)))))))) da_nil))))) (dss_one (ds_appI (de_var (pv 4)) (pv 2))) dss_nil)))) dss_nil)) (passes_of rfl))
  (dss_one (ds_retV (pv 2)))))
theorem sc_is_form_u : FnScope N_is_form_u ["value"] (defScope s_is_form_u) := ⟨rfl, rfl, rfl, by decide +kernel, rfl, by decide +kernel, by decide +kernel⟩
theorem ok_is_form_u (B : Facts K mg) (r : RawD K mg "_is_form" s_is_form_u ["value"]) (D_is_whole : DefD P w K mg base 1 3 "is_whole" f_is_whole) : DefD P w K mg base 2 1 "_is_form" f_is_form_u :=
  okDD r sc_is_form_u rfl fun f cdv A outer s H E hr tk => by
    unfold g_is_form_u
    exact (dss_cons (ds_if (PW.pt (dw_or (dt_not (dt_val (DQ.de (dq_callB cr_isi B.b_isinstance bt_isinstance (da_cons (de_var (pv 0)) (da_cons (de_ty B.b_tuple bt_tuple) da_nil)))))) (dw_or1 (dt_not (dt_chain or_le or_le de_int (DQ.de (dq_callB cr_len B.b_len bt_len (da_cons (de_var (pv 0)) da_nil))) (de_bin or_add (de_globI B.c_MOST_LEVELS) de_int)))))) (dss_one (ds_ret (df_imm de_bl))) dss_nil)
  (dss_cons (ds_if (PW.pt (dw_or (dt_not (dt_val (DQ.de (dq_callB (cr_allD rfl) B.b_all bt_all (da_cons (DQ.de (dq_comp (di_any (de_var (pv 0))) sc_is_form_u.nd (blkOk_by (N := N_is_form_u) (sc := defScope s_is_form_u) (own := [("level", 1)]) (by decide +kernel)) (fun _ _ _ _ _ => (dg_name sc_is_form_u.nd)) (fun _ _ _ _ _ => dts_nil) (fun _ _ _ _ _ => (DF.de (df_call D_is_whole hr (by decide) takes0 (da_cons (de_var (pv 1)) (da_cons de_int (da_cons (de_bin or_sub (DQ.de (dq_callB cr_len B.b_len bt_len (da_cons (de_var (pv 0)) da_nil))) de_int) da_nil)))))))) da_nil))))) (dw_or1 (dt_cmp (or_ne (hu64 hr)) (DQ.de (dq_callB (cr_sortedD (hu64 hr)) B.b_sorted bt_sorted (da_cons (de_var (pv 0)) da_nil))) (DF.de (df_listRg1 (DQ.de (dq_callB cr_len B.b_len bt_len (da_cons (de_var (pv 0)) da_nil))) B.b_list B.b_range)))))) (dss_one (ds_ret (df_imm de_bl))) dss_nil)
  (dss_one (ds_ret (df_imm (de_and (de_cmp (or_eq (hu64 hr)) (de_ix (hu1 hr) (de_var (pv 0)) de_int) de_int) (de_one (de_cmp (or_eq (hu64 hr)) (de_ix (hu1 hr) (de_var (pv 0)) (de_neg de_int)) (de_bin or_sub (DQ.de (dq_callB cr_len B.b_len bt_len (da_cons (de_var (pv 0)) da_nil))) de_int)))))))))
theorem sc_order_fault : FnScope N_order_fault ["value"] (defScope s_order_fault) := ⟨rfl, rfl, rfl, by decide +kernel, rfl, by decide +kernel, by decide +kernel⟩
theorem ok_order_fault (B : Facts K mg) (r : RawD K mg "order_fault" s_order_fault ["value"]) (D_crosses_u : DefD P w K mg base 1 3 "_crosses" f_crosses_u) (D_is_form_u : DefD P w K mg base 2 1 "_is_form" f_is_form_u) : DefD P w K mg base 3 1 "order_fault" f_order_fault :=
  okDD r sc_order_fault rfl fun f cdv A outer s H E hr tk => by
    unfold g_order_fault
    exact (dss_cons (ds_if (dt_not (dt_val (DF.de (df_call D_is_form_u hr (by decide) tk (da_cons (de_var (pv 0)) da_nil))))) (dss_one (ds_ret (DQ.df (dq_tup (da_cons de_str da_nil))))) dss_nil)
  (dss_cons (ds_forF (dif_rng1 B.b_range (da_cons (de_bin or_sub (DQ.de (dq_callB cr_len B.b_len bt_len (da_cons (de_var (pv 0)) da_nil))) de_int) da_nil)) (dg_name sc_order_fault.nd)
  (dss_one (ds_if (dt_cmp (or_eq (hu64 hr)) (de_bin or_mod (de_bin or_sub (de_ix (hu1 hr) (de_var (pv 0)) (de_var (pv 1))) (de_ix (hu1 hr) (de_var (pv 0)) (de_bin or_add (de_var (pv 1)) de_int))) de_int) de_int) (dss_one (ds_ret (DQ.df (dq_tup (da_cons de_str (da_cons (de_var (pv 1)) da_nil)))))) dss_nil)) (passes_of rfl))
  (dss_cons (ds_forF (dif_rng1 B.b_range (da_cons (de_bin or_sub (DQ.de (dq_callB cr_len B.b_len bt_len (da_cons (de_var (pv 0)) da_nil))) de_int) da_nil)) (dg_name sc_order_fault.nd)
  (dss_one (ds_forF (dif_rng3 B.b_range (da_cons (de_bin or_add (de_var (pv 2)) de_int) (da_cons (de_bin or_sub (DQ.de (dq_callB cr_len B.b_len bt_len (da_cons (de_var (pv 0)) da_nil))) de_int) (da_cons de_int da_nil)))) (dg_name sc_order_fault.nd)
  (dss_one (ds_if (dt_val (DF.de (df_call D_crosses_u hr (by decide) tk (da_cons (de_var (pv 0)) (da_cons (de_var (pv 2)) (da_cons (de_var (pv 3)) da_nil)))))) (dss_one (ds_ret (DQ.df (dq_tup (da_cons de_str (da_cons (de_var (pv 2)) (da_cons (de_var (pv 3)) da_nil))))))) dss_nil)) (passes_of rfl))) (passes_of rfl))
  (dss_one (ds_ret (df_imm de_non))))))
theorem sc_listed_u : FnScope N_listed_u ["many"] (defScope s_listed_u) := ⟨rfl, rfl, rfl, by decide +kernel, rfl, by decide +kernel, by decide +kernel⟩
theorem ok_listed_u (B : Facts K mg) (r : RawD K mg "_listed" s_listed_u ["many"]) (D_longer_u : DefD P w K mg base 2 2 "_longer" f_longer_u) (D_order_fault : DefD P w K mg base 3 1 "order_fault" f_order_fault) : DefD P w K mg base 4 1 "_listed" f_listed_u :=
  okDD r sc_listed_u rfl fun f cdv A outer s H E hr tk => by
    unfold g_listed_u
    exact (dss_cons (ds_setF (DQ.df (dq_lst (da_cons (DQ.de (dq_tup (da_cons de_int da_nil))) da_nil))) sc_listed_u.nd)
  (dss_cons (ds_forF (dif_rng1 B.b_range (da_cons (de_var (pv 0)) da_nil)) (dg_name sc_listed_u.nd)
  (dss_cons (ds_setF (DQ.df (dq_lst da_nil)) sc_listed_u.nd)
  (dss_cons (ds_forS (di_any (de_var (pv 1))) (dg_name sc_listed_u.nd)
  (dss_one (ds_extI (DF.de (df_call D_longer_u hr (by decide) tk (da_cons (de_var (pv 5)) (da_cons (de_var (pv 0)) da_nil)))) (pv 4))) (passes_of rfl))
  (dss_one (ds_setN (pv 4) sc_listed_u.nd)))) (passes_of rfl))
  (dss_cons (ds_setLcT (di_any (de_var (pv 1))) sc_listed_u.nd (blkOk_by (N := N_listed_u) (sc := defScope s_listed_u) (own := [("row", 5)]) (by decide +kernel)) (fun _ _ _ _ _ => (dg_name sc_listed_u.nd)) (fun _ _ _ _ _ => dts_nil) (fun _ _ _ _ _ => (de_bin or_add (de_var (pv 5)) (DQ.de (dq_tup (da_cons (de_bin or_add (de_var (pv 0)) de_int) da_nil))))))
  (dss_one (ds_ret (DQ.df (dq_comp (di_any (de_var (pv 3))) sc_listed_u.nd (blkOk_by (N := N_listed_u) (sc := defScope s_listed_u) (own := [("row", 5)]) (by decide +kernel)) (fun _ _ _ _ _ => (dg_name sc_listed_u.nd)) (fun _ _ _ _ _ => (dts_one (dt_cmp or_is (DF.de (df_call D_order_fault hr (by decide) takes0 (da_cons (de_var (pv 5)) da_nil))) de_non))) (fun _ _ _ _ _ => (de_var (pv 5))))))))))
theorem sc_labyrinths : FnScope N_labyrinths ["many"] (defScope s_labyrinths) := ⟨rfl, rfl, rfl, by decide +kernel, rfl, by decide +kernel, by decide +kernel⟩
theorem ok_labyrinths (B : Facts K mg) (r : RawD K mg "labyrinths" s_labyrinths ["many"]) (D_check_many_u : DefD P w K mg base 2 2 "_check_many" f_check_many_u) (D_listed_u : DefD P w K mg base 4 1 "_listed" f_listed_u) : DefD P w K mg base 5 1 "labyrinths" f_labyrinths :=
  okDD r sc_labyrinths rfl fun f cdv A outer s H E hr tk => by
    unfold g_labyrinths
    exact (dss_cons (ds_expr (DF.de (df_call D_check_many_u hr (by decide) tk (da_cons (de_var (pv 0)) (da_cons (de_globI B.c_MOST_LISTED) da_nil)))))
  (dss_one (ds_ret (df_call D_listed_u hr (by decide) tk (da_cons (de_var (pv 0)) da_nil)))))
theorem sc_count_labyrinths : FnScope N_count_labyrinths ["many"] (defScope s_count_labyrinths) := ⟨rfl, rfl, rfl, by decide +kernel, rfl, by decide +kernel, by decide +kernel⟩
theorem ok_count_labyrinths (B : Facts K mg) (r : RawD K mg "count_labyrinths" s_count_labyrinths ["many"]) (D_check_many_u : DefD P w K mg base 2 2 "_check_many" f_check_many_u) (D_listed_u : DefD P w K mg base 4 1 "_listed" f_listed_u) : DefD P w K mg base 5 1 "count_labyrinths" f_count_labyrinths :=
  okDD r sc_count_labyrinths rfl fun f cdv A outer s H E hr tk => by
    unfold g_count_labyrinths
    exact (dss_cons (ds_expr (DF.de (df_call D_check_many_u hr (by decide) tk (da_cons (de_var (pv 0)) (da_cons (de_globI B.c_MOST_LEVELS) da_nil)))))
  (dss_one (ds_ret (df_imm (DQ.de (dq_callB cr_len B.b_len bt_len (da_cons (DF.de (df_call D_listed_u hr (by decide) tk (da_cons (de_var (pv 0)) da_nil))) da_nil)))))))
theorem sc_labyrinth : FnScope N_labyrinth ["many", "number"] (defScope s_labyrinth) := ⟨rfl, rfl, rfl, by decide +kernel, rfl, by decide +kernel, by decide +kernel⟩
theorem ok_labyrinth (B : Facts K mg) (r : RawD K mg "labyrinth" s_labyrinth ["many", "number"]) (D_is_whole : DefD P w K mg base 1 3 "is_whole" f_is_whole) (D_check_many_u : DefD P w K mg base 2 2 "_check_many" f_check_many_u) (D_listed_u : DefD P w K mg base 4 1 "_listed" f_listed_u) : DefD P w K mg base 5 2 "labyrinth" f_labyrinth :=
  okDD r sc_labyrinth rfl fun f cdv A outer s H E hr tk => by
    unfold g_labyrinth
    exact (dss_cons (ds_expr (DF.de (df_call D_check_many_u hr (by decide) tk (da_cons (de_var (pv 0)) (da_cons (de_globI B.c_MOST_LISTED) da_nil)))))
  (dss_cons (ds_setF (df_call D_listed_u hr (by decide) tk (da_cons (de_var (pv 0)) da_nil)) sc_labyrinth.nd)
  (dss_cons (ds_if (dt_not (dt_val (DF.de (df_call D_is_whole hr (by decide) tk (da_cons (de_var (pv 1)) (da_cons de_int (da_cons (de_bin or_sub (DQ.de (dq_callB cr_len B.b_len bt_len (da_cons (de_var (pv 2)) da_nil))) de_int) da_nil))))))) (dss_one (ds_raiseD B.e_BadLevels tk)) dss_nil)
  (dss_one (ds_ret (df_imm (de_ix (hu1 hr) (de_var (pv 2)) (de_var (pv 1)))))))))
theorem sc_law_refused_u : FnScope N_law_refused_u ["call", "one", "two"] (defScope s_law_refused_u) := ⟨rfl, rfl, rfl, by decide +kernel, rfl, by decide +kernel, by decide +kernel⟩
theorem ok_law_refused_u (B : Facts K mg) (r : RawD K mg "_law_refused" s_law_refused_u ["call", "one", "two"]) (D_labyrinths : DefD P w K mg base 5 1 "labyrinths" f_labyrinths) (D_count_labyrinths : DefD P w K mg base 5 1 "count_labyrinths" f_count_labyrinths) (D_labyrinth : DefD P w K mg base 5 2 "labyrinth" f_labyrinth) : DefD P w K mg base 6 3 "_law_refused" f_law_refused_u :=
  okDD r sc_law_refused_u rfl fun f cdv A outer s H E hr tk => by
    unfold g_law_refused_u
    exact (dss_cons (ds_tryD (exc_there B.e_BadLevels) tk (fun p hp => by simp only [List.mem_cons, List.not_mem_nil, or_false] at hp; rcases hp with rfl <;> first | exact B.t_BadLevels_BadLevels) (fun W1 pn1 xe1 tk1 pas1 => (dss_one (ds_if (dt_cmp (or_eq (hu64 hr)) (de_var (pv 0)) de_int) (dss_one (ds_expr (DF.de (df_call D_labyrinths hr (by decide) tk1 (da_cons (de_var (pv 1)) da_nil))))) (dss_one (ds_if (dt_cmp (or_eq (hu64 hr)) (de_var (pv 0)) de_int) (dss_one (ds_expr (DF.de (df_call D_count_labyrinths hr (by decide) tk1 (da_cons (de_var (pv 1)) da_nil))))) (dss_one (ds_expr (DF.de (df_call D_labyrinth hr (by decide) tk1 (da_cons (de_var (pv 1)) (da_cons (de_var (pv 2)) da_nil))))))))))) (fun _ _ _ _ _ => (dss_one (ds_ret (df_imm de_bl)))))
  (dss_one (ds_ret (df_imm de_bl))))
theorem sc_check_order_u : FnScope N_check_order_u ["order"] (defScope s_check_order_u) := ⟨rfl, rfl, rfl, by decide +kernel, rfl, by decide +kernel, by decide +kernel⟩
theorem ok_check_order_u (B : Facts K mg) (r : RawD K mg "_check_order" s_check_order_u ["order"]) (D_order_fault : DefD P w K mg base 3 1 "order_fault" f_order_fault) : DefD P w K mg base 4 1 "_check_order" f_check_order_u :=
  okDD r sc_check_order_u rfl fun f cdv A outer s H E hr tk => by
    unfold g_check_order_u
    exact (dss_one (ds_if (dt_cmp or_isn (DF.de (df_call D_order_fault hr (by decide) tk (da_cons (de_var (pv 0)) da_nil))) de_non) (dss_one (ds_raiseD B.e_BadOrder tk)) dss_nil))
theorem sc_turned_order : FnScope N_turned_order ["order"] (defScope s_turned_order) := ⟨rfl, rfl, rfl, by decide +kernel, rfl, by decide +kernel, by decide +kernel⟩
theorem ok_turned_order (B : Facts K mg) (r : RawD K mg "turned_order" s_turned_order ["order"]) (D_check_order_u : DefD P w K mg base 4 1 "_check_order" f_check_order_u) : DefD P w K mg base 5 1 "turned_order" f_turned_order :=
  okDD r sc_turned_order rfl fun f cdv A outer s H E hr tk => by
    unfold g_turned_order
    exact (dss_cons (ds_expr (DF.de (df_call D_check_order_u hr (by decide) tk (da_cons (de_var (pv 0)) da_nil))))
  (dss_one (ds_ret (DQ.df (dq_callTy cr_tuple B.b_tuple bt_tuple (da_cons (DQ.de (dq_comp (di_any (DQ.de (dq_rev (de_var (pv 0))))) sc_turned_order.nd (blkOk_by (N := N_turned_order) (sc := defScope s_turned_order) (own := [("level", 1)]) (by decide +kernel)) (fun _ _ _ _ _ => (dg_name sc_turned_order.nd)) (fun _ _ _ _ _ => dts_nil) (fun _ _ _ _ _ => (de_bin or_sub (de_ix (hu1 hr) (de_var (pv 0)) (de_neg de_int)) (de_var (pv 1)))))) da_nil))))))
theorem sc_law : FnScope N_law ["script"] (defScope s_law) := ⟨rfl, rfl, rfl, by decide +kernel, rfl, by decide +kernel, by decide +kernel⟩
theorem ok_law (B : Facts K mg) (r : RawD K mg "law" s_law ["script"]) (D_law_draws_u : ∀ base, DefD P w K mg base 1 2 "_law_draws" f_law_draws_u) (D_law_all_u : ∀ base, DefD P w K mg base 2 1 "_law_all" f_law_all_u) (D_order_fault : ∀ base, DefD P w K mg base 3 1 "order_fault" f_order_fault) (D_labyrinths : ∀ base, DefD P w K mg base 5 1 "labyrinths" f_labyrinths) (D_count_labyrinths : ∀ base, DefD P w K mg base 5 1 "count_labyrinths" f_count_labyrinths) (D_labyrinth : ∀ base, DefD P w K mg base 5 2 "labyrinth" f_labyrinth) (D_law_refused_u : ∀ base, DefD P w K mg base 6 3 "_law_refused" f_law_refused_u) (D_turned_order : ∀ base, DefD P w K mg base 5 1 "turned_order" f_turned_order) : LawD P w K mg 7 f_law :=
  okLL r sc_law fun base f cdv A outer s H E hr tk => by
    have D_law_draws_u := D_law_draws_u base
    have D_law_all_u := D_law_all_u base
    have D_order_fault := D_order_fault base
    have D_labyrinths := D_labyrinths base
    have D_count_labyrinths := D_count_labyrinths base
    have D_labyrinth := D_labyrinth base
    have D_law_refused_u := D_law_refused_u base
    have D_turned_order := D_turned_order base
    unfold g_law
    exact (dss_cons (ds_setF (df_call D_law_draws_u hr (by decide) tk (da_cons (de_var (pv 0)) (da_cons de_int da_nil))) sc_law.nd)
  (dss_cons (ds_setI (de_bin or_mod (DQ.de (dq_callTy cr_int B.b_int bt_int (da_cons (de_ix (hu1 hr) (de_var (pv 1)) de_int) da_nil))) de_int) sc_law.nd)
  (dss_cons (ds_if (dt_cmp (or_eq (hu64 hr)) (de_bin or_mod (DQ.de (dq_callTy cr_int B.b_int bt_int (da_cons (de_ix (hu1 hr) (de_var (pv 1)) de_int) da_nil))) de_int) de_int) (dss_one (ds_setI (de_bin or_add de_int (de_bin or_mod (DQ.de (dq_callTy cr_int B.b_int bt_int (da_cons (de_ix (hu1 hr) (de_var (pv 1)) de_int) da_nil))) de_int)) sc_law.nd)) dss_nil)
  (dss_cons (ds_setF (df_call D_law_all_u hr (by decide) tk (da_cons (de_var (pv 2)) da_nil)) sc_law.nd)
  (dss_cons (ds_setF (df_call D_labyrinths hr (by decide) tk (da_cons (de_var (pv 2)) da_nil)) sc_law.nd)
  (dss_cons (ds_if (PW.pt (dw_or (dt_cmp (or_ne (hu64 hr)) (de_var (pv 4)) (de_var (pv 3))) (dw_or (dt_cmp (or_ne (hu64 hr)) (DF.de (df_call D_count_labyrinths hr (by decide) tk (da_cons (de_var (pv 2)) da_nil))) (DQ.de (dq_callB cr_len B.b_len bt_len (da_cons (de_var (pv 3)) da_nil)))) (dw_or1 (dt_cmp (or_ne (hu64 hr)) (DQ.de (dq_callB cr_len B.b_len bt_len (da_cons (de_var (pv 3)) da_nil))) (de_ix (hu1 hr) (DQ.de (dq_tup (da_cons de_int (da_cons de_int (da_cons de_int (da_cons de_int (da_cons de_int (da_cons de_int (da_cons de_int (da_cons de_int (da_cons de_int (da_cons de_int da_nil)))))))))))) (de_var (pv 2)))))))) (dss_one (ds_ret (df_imm de_bl))) dss_nil)
  (dss_cons (ds_setI (de_bin or_mod (DQ.de (dq_callTy cr_int B.b_int bt_int (da_cons (de_ix (hu1 hr) (de_var (pv 1)) de_int) da_nil))) (DQ.de (dq_callB cr_len B.b_len bt_len (da_cons (de_var (pv 3)) da_nil)))) sc_law.nd)
  (dss_cons (ds_if (PW.pt (dw_or (dt_cmp (or_ne (hu64 hr)) (DF.de (df_call D_labyrinth hr (by decide) tk (da_cons (de_var (pv 2)) (da_cons (de_var (pv 5)) da_nil)))) (de_ix (hu1 hr) (de_var (pv 3)) (de_var (pv 5)))) (dw_or1 (dt_cmp or_isn (DF.de (df_call D_order_fault hr (by decide) tk (da_cons (de_ix (hu1 hr) (de_var (pv 3)) (de_var (pv 5))) da_nil))) de_non)))) (dss_one (ds_ret (df_imm de_bl))) dss_nil)
  (dss_cons (ds_if (dt_cmp (or_ne (hu64 hr)) (DQ.de (dq_callB (cr_sortedD (hu64 hr)) B.b_sorted bt_sorted (da_cons (DQ.de (dq_comp (di_any (de_var (pv 4))) sc_law.nd (blkOk_by (N := N_law) (sc := defScope s_law) (own := [("order", 7)]) (by decide +kernel)) (fun _ _ _ _ _ => (dg_name sc_law.nd)) (fun _ _ _ _ _ => dts_nil) (fun _ _ _ _ _ => (DF.de (df_call D_turned_order hr (by decide) takes0 (da_cons (de_var (pv 7)) da_nil)))))) da_nil))) (de_var (pv 4))) (dss_one (ds_ret (df_imm de_bl))) dss_nil)
  (dss_cons (ds_if (PW.pt (dw_and (dt_cmp (or_eq (hu64 hr)) (de_bin or_mod (DQ.de (dq_callTy cr_int B.b_int bt_int (da_cons (de_ix (hu1 hr) (de_var (pv 1)) de_int) da_nil))) de_int) de_int) (dw_and1 (dt_cmp (or_ne (hu64 hr)) (DF.de (df_call D_count_labyrinths hr (by decide) tk (da_cons (de_bin or_add de_int (de_bin or_mod (DQ.de (dq_callTy cr_int B.b_int bt_int (da_cons (de_ix (hu1 hr) (de_var (pv 1)) de_int) da_nil))) de_int)) da_nil))) (de_ix (hu1 hr) (DQ.de (dq_tup (da_cons de_int (da_cons de_int da_nil)))) (de_bin or_mod (DQ.de (dq_callTy cr_int B.b_int bt_int (da_cons (de_ix (hu1 hr) (de_var (pv 1)) de_int) da_nil))) de_int)))))) (dss_one (ds_ret (df_imm de_bl))) dss_nil)
  (dss_cons (ds_forF (dif_any (DQ.df (dq_tup (da_cons (de_neg de_int) (da_cons de_int (da_cons de_bl (da_cons de_non (da_cons de_str da_nil)))))))) (dg_name sc_law.nd)
  (dss_one (ds_if (dt_not (dt_val (DQ.de (dq_callB (cr_allD rfl) B.b_all bt_all (da_cons (DQ.de (dq_comp (DIF.di (dif_rng1 B.b_range (da_cons de_int da_nil))) sc_law.nd (blkOk_by (N := N_law) (sc := defScope s_law) (own := [("call", 8)]) (by decide +kernel)) (fun _ _ _ _ _ => (dg_name sc_law.nd)) (fun _ _ _ _ _ => dts_nil) (fun _ _ _ _ _ => (DF.de (df_call D_law_refused_u hr (by decide) takes0 (da_cons (de_var (pv 8)) (da_cons (de_var (pv 6)) (da_cons de_int da_nil)))))))) da_nil))))) (dss_one (ds_ret (df_imm de_bl))) dss_nil)) (passes_of rfl))
  (dss_one (ds_ret (df_imm (de_and (DF.de (df_call D_law_refused_u hr (by decide) tk (da_cons de_int (da_cons de_int (da_cons de_int da_nil))))) (de_and (DF.de (df_call D_law_refused_u hr (by decide) tk (da_cons de_int (da_cons de_int (da_cons de_int da_nil))))) (de_one (DQ.de (dq_callB (cr_allD rfl) B.b_all bt_all (da_cons (DQ.de (dq_comp (di_any (DQ.de (dq_tup (da_cons (de_neg de_int) (da_cons (DQ.de (dq_callB cr_len B.b_len bt_len (da_cons (de_var (pv 3)) da_nil))) (da_cons de_bl (da_cons de_non da_nil))))))) sc_law.nd (blkOk_by (N := N_law) (sc := defScope s_law) (own := [("wrong", 6)]) (by decide +kernel)) (fun _ _ _ _ _ => (dg_name sc_law.nd)) (fun _ _ _ _ _ => dts_nil) (fun _ _ _ _ _ => (DF.de (df_call D_law_refused_u hr (by decide) takes0 (da_cons de_int (da_cons (de_var (pv 2)) (da_cons (de_var (pv 6)) da_nil)))))))) da_nil))))))))))))))))))))
end
theorem facts_mk {K : PySem.W.Frag} {h : Heap} {mg : Str → Option Value} (X : K.In h) (G : h.Ns mainGlobals mg)
    (z_abs : PySem.W.nsIn K mainGlobals "abs" = some none)
    (z_all : PySem.W.nsIn K mainGlobals "all" = some none)
    (z_any : PySem.W.nsIn K mainGlobals "any" = some none)
    (z_bool : PySem.W.nsIn K mainGlobals "bool" = some none)
    (z_int : PySem.W.nsIn K mainGlobals "int" = some none)
    (z_isinstance : PySem.W.nsIn K mainGlobals "isinstance" = some none)
    (z_len : PySem.W.nsIn K mainGlobals "len" = some none)
    (z_list : PySem.W.nsIn K mainGlobals "list" = some none)
    (z_max : PySem.W.nsIn K mainGlobals "max" = some none)
    (z_min : PySem.W.nsIn K mainGlobals "min" = some none)
    (z_range : PySem.W.nsIn K mainGlobals "range" = some none)
    (z_sorted : PySem.W.nsIn K mainGlobals "sorted" = some none)
    (z_tuple : PySem.W.nsIn K mainGlobals "tuple" = some none)
    {t_MOST_LEVELS : Tok} (y_MOST_LEVELS : PySem.W.nsIn K mainGlobals "MOST_LEVELS" = some (some (.int 12 t_MOST_LEVELS)))
    {t_MOST_LISTED : Tok} (y_MOST_LISTED : PySem.W.nsIn K mainGlobals "MOST_LISTED" = some (some (.int 9 t_MOST_LISTED)))
    {C_BadLevels : Addr} (e1_BadLevels : PySem.W.nsIn K mainGlobals "BadLevels" = some (some (.ref C_BadLevels))) (e2_BadLevels : PySem.W.excIn K C_BadLevels [.type "ValueError", .type "Exception", .type "BaseException", .type "object"] "ValueError.__new__" = true) (e3_BadLevels : PySem.W.keepIn K (.ref C_BadLevels) = true) (e4_BadLevels : PySem.W.subIn K (.ref C_BadLevels) (.type "BaseException") = some true) (e5_BadLevels : PySem.W.typeIn K (.ref C_BadLevels) = some (.type "type")) (e6_BadLevels : PySem.W.isClsIn K C_BadLevels = true)
    {C_BadOrder : Addr} (e1_BadOrder : PySem.W.nsIn K mainGlobals "BadOrder" = some (some (.ref C_BadOrder))) (e2_BadOrder : PySem.W.excIn K C_BadOrder [.type "ValueError", .type "Exception", .type "BaseException", .type "object"] "ValueError.__new__" = true) (e3_BadOrder : PySem.W.keepIn K (.ref C_BadOrder) = true) (e4_BadOrder : PySem.W.subIn K (.ref C_BadOrder) (.type "BaseException") = some true) (e5_BadOrder : PySem.W.typeIn K (.ref C_BadOrder) = some (.type "type")) (e6_BadOrder : PySem.W.isClsIn K C_BadOrder = true)
    (x_BadLevels_BadLevels : PySem.W.subIn K (.ref C_BadLevels) (.ref C_BadLevels) = some true) : Facts K mg := ⟨PySem.W.mg_none_of X G z_abs, PySem.W.mg_none_of X G z_all, PySem.W.mg_none_of X G z_any, PySem.W.mg_none_of X G z_bool, PySem.W.mg_none_of X G z_int, PySem.W.mg_none_of X G z_isinstance, PySem.W.mg_none_of X G z_len, PySem.W.mg_none_of X G z_list, PySem.W.mg_none_of X G z_max, PySem.W.mg_none_of X G z_min, PySem.W.mg_none_of X G z_range, PySem.W.mg_none_of X G z_sorted, PySem.W.mg_none_of X G z_tuple, ⟨_, PySem.W.mg_of X G y_MOST_LEVELS⟩, ⟨_, PySem.W.mg_of X G y_MOST_LISTED⟩, ⟨C_BadLevels, PySem.W.mg_of X G e1_BadLevels, e2_BadLevels, e3_BadLevels, e4_BadLevels, e5_BadLevels⟩, ⟨C_BadOrder, PySem.W.mg_of X G e1_BadOrder, e2_BadOrder, e3_BadOrder, e4_BadOrder, e5_BadOrder⟩, catD_mk (PySem.W.mg_of X G e1_BadLevels) (PySem.W.mg_of X G e1_BadLevels) (exm_sub e4_BadLevels e6_BadLevels e5_BadLevels x_BadLevels_BadLevels)⟩
theorem all_ok {P : Program} {w : World} {K : PySem.W.Frag} {mg : Str → Option Value} (B : Facts K mg) (r_law_draws_u : RawD K mg "_law_draws" s_law_draws_u ["script", "many"])
    (r_law_fits_u : RawD K mg "_law_fits" s_law_fits_u ["row", "level"])
    (r_law_all_u : RawD K mg "_law_all" s_law_all_u ["many"])
    (r_is_whole : RawD K mg "is_whole" s_is_whole ["value", "least", "most"])
    (r_check_many_u : RawD K mg "_check_many" s_check_many_u ["many", "most"])
    (r_crosses_u : RawD K mg "_crosses" s_crosses_u ["order", "first", "second"])
    (r_longer_u : RawD K mg "_longer" s_longer_u ["order", "many"])
    (r_is_form_u : RawD K mg "_is_form" s_is_form_u ["value"])
    (r_order_fault : RawD K mg "order_fault" s_order_fault ["value"])
    (r_listed_u : RawD K mg "_listed" s_listed_u ["many"])
    (r_labyrinths : RawD K mg "labyrinths" s_labyrinths ["many"])
    (r_count_labyrinths : RawD K mg "count_labyrinths" s_count_labyrinths ["many"])
    (r_labyrinth : RawD K mg "labyrinth" s_labyrinth ["many", "number"])
    (r_law_refused_u : RawD K mg "_law_refused" s_law_refused_u ["call", "one", "two"])
    (r_check_order_u : RawD K mg "_check_order" s_check_order_u ["order"])
    (r_turned_order : RawD K mg "turned_order" s_turned_order ["order"])
    (r_law : RawD K mg "law" s_law ["script"]) : LawD P w K mg 7 f_law := by
  have D_law_draws_u : ∀ base, DefD P w K mg base 1 2 "_law_draws" f_law_draws_u := fun base => ok_law_draws_u B r_law_draws_u 
  have D_law_fits_u : ∀ base, DefD P w K mg base 1 2 "_law_fits" f_law_fits_u := fun base => ok_law_fits_u B r_law_fits_u 
  have D_law_all_u : ∀ base, DefD P w K mg base 2 1 "_law_all" f_law_all_u := fun base => ok_law_all_u B r_law_all_u (D_law_fits_u base)
  have D_is_whole : ∀ base, DefD P w K mg base 1 3 "is_whole" f_is_whole := fun base => ok_is_whole B r_is_whole 
  have D_check_many_u : ∀ base, DefD P w K mg base 2 2 "_check_many" f_check_many_u := fun base => ok_check_many_u B r_check_many_u (D_is_whole base)
  have D_crosses_u : ∀ base, DefD P w K mg base 1 3 "_crosses" f_crosses_u := fun base => ok_crosses_u B r_crosses_u 
  have D_longer_u : ∀ base, DefD P w K mg base 2 2 "_longer" f_longer_u := fun base => ok_longer_u B r_longer_u (D_crosses_u base)
  have D_is_form_u : ∀ base, DefD P w K mg base 2 1 "_is_form" f_is_form_u := fun base => ok_is_form_u B r_is_form_u (D_is_whole base)
  have D_order_fault : ∀ base, DefD P w K mg base 3 1 "order_fault" f_order_fault := fun base => ok_order_fault B r_order_fault (D_crosses_u base) (D_is_form_u base)
  have D_listed_u : ∀ base, DefD P w K mg base 4 1 "_listed" f_listed_u := fun base => ok_listed_u B r_listed_u (D_longer_u base) (D_order_fault base)
  have D_labyrinths : ∀ base, DefD P w K mg base 5 1 "labyrinths" f_labyrinths := fun base => ok_labyrinths B r_labyrinths (D_check_many_u base) (D_listed_u base)
  have D_count_labyrinths : ∀ base, DefD P w K mg base 5 1 "count_labyrinths" f_count_labyrinths := fun base => ok_count_labyrinths B r_count_labyrinths (D_check_many_u base) (D_listed_u base)
  have D_labyrinth : ∀ base, DefD P w K mg base 5 2 "labyrinth" f_labyrinth := fun base => ok_labyrinth B r_labyrinth (D_is_whole base) (D_check_many_u base) (D_listed_u base)
  have D_law_refused_u : ∀ base, DefD P w K mg base 6 3 "_law_refused" f_law_refused_u := fun base => ok_law_refused_u B r_law_refused_u (D_labyrinths base) (D_count_labyrinths base) (D_labyrinth base)
  have D_check_order_u : ∀ base, DefD P w K mg base 4 1 "_check_order" f_check_order_u := fun base => ok_check_order_u B r_check_order_u (D_order_fault base)
  have D_turned_order : ∀ base, DefD P w K mg base 5 1 "turned_order" f_turned_order := fun base => ok_turned_order B r_turned_order (D_check_order_u base)
  exact ok_law B r_law D_law_draws_u D_law_all_u D_order_fault D_labyrinths D_count_labyrinths D_labyrinth D_law_refused_u D_turned_order
theorem all_mk (true_ : ∀ ns : List Int, ns.length ≤ 63 → f_law [.fz (ns.map .int)] = .ok (.bl true)) {P : Program} {w : World} {K : PySem.W.Frag} {h : Heap} {mg : Str → Option Value} {fa : Addr} (X : K.In h) (G : h.Ns mainGlobals mg) (hfa : mg "law" = some (.ref fa))
    (z_abs : PySem.W.nsIn K mainGlobals "abs" = some none)
    (z_all : PySem.W.nsIn K mainGlobals "all" = some none)
    (z_any : PySem.W.nsIn K mainGlobals "any" = some none)
    (z_bool : PySem.W.nsIn K mainGlobals "bool" = some none)
    (z_int : PySem.W.nsIn K mainGlobals "int" = some none)
    (z_isinstance : PySem.W.nsIn K mainGlobals "isinstance" = some none)
    (z_len : PySem.W.nsIn K mainGlobals "len" = some none)
    (z_list : PySem.W.nsIn K mainGlobals "list" = some none)
    (z_max : PySem.W.nsIn K mainGlobals "max" = some none)
    (z_min : PySem.W.nsIn K mainGlobals "min" = some none)
    (z_range : PySem.W.nsIn K mainGlobals "range" = some none)
    (z_sorted : PySem.W.nsIn K mainGlobals "sorted" = some none)
    (z_tuple : PySem.W.nsIn K mainGlobals "tuple" = some none)
    {t_MOST_LEVELS : Tok} (y_MOST_LEVELS : PySem.W.nsIn K mainGlobals "MOST_LEVELS" = some (some (.int 12 t_MOST_LEVELS)))
    {t_MOST_LISTED : Tok} (y_MOST_LISTED : PySem.W.nsIn K mainGlobals "MOST_LISTED" = some (some (.int 9 t_MOST_LISTED)))
    {C_BadLevels : Addr} (e1_BadLevels : PySem.W.nsIn K mainGlobals "BadLevels" = some (some (.ref C_BadLevels))) (e2_BadLevels : PySem.W.excIn K C_BadLevels [.type "ValueError", .type "Exception", .type "BaseException", .type "object"] "ValueError.__new__" = true) (e3_BadLevels : PySem.W.keepIn K (.ref C_BadLevels) = true) (e4_BadLevels : PySem.W.subIn K (.ref C_BadLevels) (.type "BaseException") = some true) (e5_BadLevels : PySem.W.typeIn K (.ref C_BadLevels) = some (.type "type")) (e6_BadLevels : PySem.W.isClsIn K C_BadLevels = true)
    {C_BadOrder : Addr} (e1_BadOrder : PySem.W.nsIn K mainGlobals "BadOrder" = some (some (.ref C_BadOrder))) (e2_BadOrder : PySem.W.excIn K C_BadOrder [.type "ValueError", .type "Exception", .type "BaseException", .type "object"] "ValueError.__new__" = true) (e3_BadOrder : PySem.W.keepIn K (.ref C_BadOrder) = true) (e4_BadOrder : PySem.W.subIn K (.ref C_BadOrder) (.type "BaseException") = some true) (e5_BadOrder : PySem.W.typeIn K (.ref C_BadOrder) = some (.type "type")) (e6_BadOrder : PySem.W.isClsIn K C_BadOrder = true)
    (x_BadLevels_BadLevels : PySem.W.subIn K (.ref C_BadLevels) (.ref C_BadLevels) = some true)
    {a_law_draws_u : Addr} {oc_law_draws_u kV_law_draws_u dc_law_draws_u pm_law_draws_u cd_law_draws_u ct_law_draws_u : Value} {od_law_draws_u an_law_draws_u : Option Addr} {sl_law_draws_u : Array (Option Value)}
    {a_law_fits_u : Addr} {oc_law_fits_u kV_law_fits_u dc_law_fits_u pm_law_fits_u cd_law_fits_u ct_law_fits_u : Value} {od_law_fits_u an_law_fits_u : Option Addr} {sl_law_fits_u : Array (Option Value)}
    {a_law_all_u : Addr} {oc_law_all_u kV_law_all_u dc_law_all_u pm_law_all_u cd_law_all_u ct_law_all_u : Value} {od_law_all_u an_law_all_u : Option Addr} {sl_law_all_u : Array (Option Value)}
    {a_is_whole : Addr} {oc_is_whole kV_is_whole dc_is_whole pm_is_whole cd_is_whole ct_is_whole : Value} {od_is_whole an_is_whole : Option Addr} {sl_is_whole : Array (Option Value)}
    {a_check_many_u : Addr} {oc_check_many_u kV_check_many_u dc_check_many_u pm_check_many_u cd_check_many_u ct_check_many_u : Value} {od_check_many_u an_check_many_u : Option Addr} {sl_check_many_u : Array (Option Value)}
    {a_crosses_u : Addr} {oc_crosses_u kV_crosses_u dc_crosses_u pm_crosses_u cd_crosses_u ct_crosses_u : Value} {od_crosses_u an_crosses_u : Option Addr} {sl_crosses_u : Array (Option Value)}
    {a_longer_u : Addr} {oc_longer_u kV_longer_u dc_longer_u pm_longer_u cd_longer_u ct_longer_u : Value} {od_longer_u an_longer_u : Option Addr} {sl_longer_u : Array (Option Value)}
    {a_is_form_u : Addr} {oc_is_form_u kV_is_form_u dc_is_form_u pm_is_form_u cd_is_form_u ct_is_form_u : Value} {od_is_form_u an_is_form_u : Option Addr} {sl_is_form_u : Array (Option Value)}
    {a_order_fault : Addr} {oc_order_fault kV_order_fault dc_order_fault pm_order_fault cd_order_fault ct_order_fault : Value} {od_order_fault an_order_fault : Option Addr} {sl_order_fault : Array (Option Value)}
    {a_listed_u : Addr} {oc_listed_u kV_listed_u dc_listed_u pm_listed_u cd_listed_u ct_listed_u : Value} {od_listed_u an_listed_u : Option Addr} {sl_listed_u : Array (Option Value)}
    {a_labyrinths : Addr} {oc_labyrinths kV_labyrinths dc_labyrinths pm_labyrinths cd_labyrinths ct_labyrinths : Value} {od_labyrinths an_labyrinths : Option Addr} {sl_labyrinths : Array (Option Value)}
    {a_count_labyrinths : Addr} {oc_count_labyrinths kV_count_labyrinths dc_count_labyrinths pm_count_labyrinths cd_count_labyrinths ct_count_labyrinths : Value} {od_count_labyrinths an_count_labyrinths : Option Addr} {sl_count_labyrinths : Array (Option Value)}
    {a_labyrinth : Addr} {oc_labyrinth kV_labyrinth dc_labyrinth pm_labyrinth cd_labyrinth ct_labyrinth : Value} {od_labyrinth an_labyrinth : Option Addr} {sl_labyrinth : Array (Option Value)}
    {a_law_refused_u : Addr} {oc_law_refused_u kV_law_refused_u dc_law_refused_u pm_law_refused_u cd_law_refused_u ct_law_refused_u : Value} {od_law_refused_u an_law_refused_u : Option Addr} {sl_law_refused_u : Array (Option Value)}
    {a_check_order_u : Addr} {oc_check_order_u kV_check_order_u dc_check_order_u pm_check_order_u cd_check_order_u ct_check_order_u : Value} {od_check_order_u an_check_order_u : Option Addr} {sl_check_order_u : Array (Option Value)}
    {a_turned_order : Addr} {oc_turned_order kV_turned_order dc_turned_order pm_turned_order cd_turned_order ct_turned_order : Value} {od_turned_order an_turned_order : Option Addr} {sl_turned_order : Array (Option Value)}
    {a_law : Addr} {oc_law kV_law dc_law pm_law cd_law ct_law : Value} {od_law an_law : Option Addr} {sl_law : Array (Option Value)}
    (h1_law_draws_u : PySem.W.nsIn K mainGlobals "_law_draws" = some (some (.ref a_law_draws_u))) (h2_law_draws_u : K.lookup a_law_draws_u = some ⟨oc_law_draws_u, od_law_draws_u, .func (PySem.W.fnOf "_law_draws" "_law_draws" (defArgs s_law_draws_u) (defBody s_law_draws_u) (defScope s_law_draws_u) .none kV_law_draws_u dc_law_draws_u pm_law_draws_u an_law_draws_u cd_law_draws_u ct_law_draws_u), sl_law_draws_u⟩) (h3_law_draws_u : PySem.W.codeIn K cd_law_draws_u "_law_draws" = true) (h4_law_draws_u : PySem.W.keepIn K (.ref a_law_draws_u) = true)
    (h1_law_fits_u : PySem.W.nsIn K mainGlobals "_law_fits" = some (some (.ref a_law_fits_u))) (h2_law_fits_u : K.lookup a_law_fits_u = some ⟨oc_law_fits_u, od_law_fits_u, .func (PySem.W.fnOf "_law_fits" "_law_fits" (defArgs s_law_fits_u) (defBody s_law_fits_u) (defScope s_law_fits_u) .none kV_law_fits_u dc_law_fits_u pm_law_fits_u an_law_fits_u cd_law_fits_u ct_law_fits_u), sl_law_fits_u⟩) (h3_law_fits_u : PySem.W.codeIn K cd_law_fits_u "_law_fits" = true) (h4_law_fits_u : PySem.W.keepIn K (.ref a_law_fits_u) = true)
    (h1_law_all_u : PySem.W.nsIn K mainGlobals "_law_all" = some (some (.ref a_law_all_u))) (h2_law_all_u : K.lookup a_law_all_u = some ⟨oc_law_all_u, od_law_all_u, .func (PySem.W.fnOf "_law_all" "_law_all" (defArgs s_law_all_u) (defBody s_law_all_u) (defScope s_law_all_u) .none kV_law_all_u dc_law_all_u pm_law_all_u an_law_all_u cd_law_all_u ct_law_all_u), sl_law_all_u⟩) (h3_law_all_u : PySem.W.codeIn K cd_law_all_u "_law_all" = true) (h4_law_all_u : PySem.W.keepIn K (.ref a_law_all_u) = true)
    (h1_is_whole : PySem.W.nsIn K mainGlobals "is_whole" = some (some (.ref a_is_whole))) (h2_is_whole : K.lookup a_is_whole = some ⟨oc_is_whole, od_is_whole, .func (PySem.W.fnOf "is_whole" "is_whole" (defArgs s_is_whole) (defBody s_is_whole) (defScope s_is_whole) .none kV_is_whole dc_is_whole pm_is_whole an_is_whole cd_is_whole ct_is_whole), sl_is_whole⟩) (h3_is_whole : PySem.W.codeIn K cd_is_whole "is_whole" = true) (h4_is_whole : PySem.W.keepIn K (.ref a_is_whole) = true)
    (h1_check_many_u : PySem.W.nsIn K mainGlobals "_check_many" = some (some (.ref a_check_many_u))) (h2_check_many_u : K.lookup a_check_many_u = some ⟨oc_check_many_u, od_check_many_u, .func (PySem.W.fnOf "_check_many" "_check_many" (defArgs s_check_many_u) (defBody s_check_many_u) (defScope s_check_many_u) .none kV_check_many_u dc_check_many_u pm_check_many_u an_check_many_u cd_check_many_u ct_check_many_u), sl_check_many_u⟩) (h3_check_many_u : PySem.W.codeIn K cd_check_many_u "_check_many" = true) (h4_check_many_u : PySem.W.keepIn K (.ref a_check_many_u) = true)
    (h1_crosses_u : PySem.W.nsIn K mainGlobals "_crosses" = some (some (.ref a_crosses_u))) (h2_crosses_u : K.lookup a_crosses_u = some ⟨oc_crosses_u, od_crosses_u, .func (PySem.W.fnOf "_crosses" "_crosses" (defArgs s_crosses_u) (defBody s_crosses_u) (defScope s_crosses_u) .none kV_crosses_u dc_crosses_u pm_crosses_u an_crosses_u cd_crosses_u ct_crosses_u), sl_crosses_u⟩) (h3_crosses_u : PySem.W.codeIn K cd_crosses_u "_crosses" = true) (h4_crosses_u : PySem.W.keepIn K (.ref a_crosses_u) = true)
    (h1_longer_u : PySem.W.nsIn K mainGlobals "_longer" = some (some (.ref a_longer_u))) (h2_longer_u : K.lookup a_longer_u = some ⟨oc_longer_u, od_longer_u, .func (PySem.W.fnOf "_longer" "_longer" (defArgs s_longer_u) (defBody s_longer_u) (defScope s_longer_u) .none kV_longer_u dc_longer_u pm_longer_u an_longer_u cd_longer_u ct_longer_u), sl_longer_u⟩) (h3_longer_u : PySem.W.codeIn K cd_longer_u "_longer" = true) (h4_longer_u : PySem.W.keepIn K (.ref a_longer_u) = true)
    (h1_is_form_u : PySem.W.nsIn K mainGlobals "_is_form" = some (some (.ref a_is_form_u))) (h2_is_form_u : K.lookup a_is_form_u = some ⟨oc_is_form_u, od_is_form_u, .func (PySem.W.fnOf "_is_form" "_is_form" (defArgs s_is_form_u) (defBody s_is_form_u) (defScope s_is_form_u) .none kV_is_form_u dc_is_form_u pm_is_form_u an_is_form_u cd_is_form_u ct_is_form_u), sl_is_form_u⟩) (h3_is_form_u : PySem.W.codeIn K cd_is_form_u "_is_form" = true) (h4_is_form_u : PySem.W.keepIn K (.ref a_is_form_u) = true)
    (h1_order_fault : PySem.W.nsIn K mainGlobals "order_fault" = some (some (.ref a_order_fault))) (h2_order_fault : K.lookup a_order_fault = some ⟨oc_order_fault, od_order_fault, .func (PySem.W.fnOf "order_fault" "order_fault" (defArgs s_order_fault) (defBody s_order_fault) (defScope s_order_fault) .none kV_order_fault dc_order_fault pm_order_fault an_order_fault cd_order_fault ct_order_fault), sl_order_fault⟩) (h3_order_fault : PySem.W.codeIn K cd_order_fault "order_fault" = true) (h4_order_fault : PySem.W.keepIn K (.ref a_order_fault) = true)
    (h1_listed_u : PySem.W.nsIn K mainGlobals "_listed" = some (some (.ref a_listed_u))) (h2_listed_u : K.lookup a_listed_u = some ⟨oc_listed_u, od_listed_u, .func (PySem.W.fnOf "_listed" "_listed" (defArgs s_listed_u) (defBody s_listed_u) (defScope s_listed_u) .none kV_listed_u dc_listed_u pm_listed_u an_listed_u cd_listed_u ct_listed_u), sl_listed_u⟩) (h3_listed_u : PySem.W.codeIn K cd_listed_u "_listed" = true) (h4_listed_u : PySem.W.keepIn K (.ref a_listed_u) = true)
    (h1_labyrinths : PySem.W.nsIn K mainGlobals "labyrinths" = some (some (.ref a_labyrinths))) (h2_labyrinths : K.lookup a_labyrinths = some ⟨oc_labyrinths, od_labyrinths, .func (PySem.W.fnOf "labyrinths" "labyrinths" (defArgs s_labyrinths) (defBody s_labyrinths) (defScope s_labyrinths) .none kV_labyrinths dc_labyrinths pm_labyrinths an_labyrinths cd_labyrinths ct_labyrinths), sl_labyrinths⟩) (h3_labyrinths : PySem.W.codeIn K cd_labyrinths "labyrinths" = true) (h4_labyrinths : PySem.W.keepIn K (.ref a_labyrinths) = true)
    (h1_count_labyrinths : PySem.W.nsIn K mainGlobals "count_labyrinths" = some (some (.ref a_count_labyrinths))) (h2_count_labyrinths : K.lookup a_count_labyrinths = some ⟨oc_count_labyrinths, od_count_labyrinths, .func (PySem.W.fnOf "count_labyrinths" "count_labyrinths" (defArgs s_count_labyrinths) (defBody s_count_labyrinths) (defScope s_count_labyrinths) .none kV_count_labyrinths dc_count_labyrinths pm_count_labyrinths an_count_labyrinths cd_count_labyrinths ct_count_labyrinths), sl_count_labyrinths⟩) (h3_count_labyrinths : PySem.W.codeIn K cd_count_labyrinths "count_labyrinths" = true) (h4_count_labyrinths : PySem.W.keepIn K (.ref a_count_labyrinths) = true)
    (h1_labyrinth : PySem.W.nsIn K mainGlobals "labyrinth" = some (some (.ref a_labyrinth))) (h2_labyrinth : K.lookup a_labyrinth = some ⟨oc_labyrinth, od_labyrinth, .func (PySem.W.fnOf "labyrinth" "labyrinth" (defArgs s_labyrinth) (defBody s_labyrinth) (defScope s_labyrinth) .none kV_labyrinth dc_labyrinth pm_labyrinth an_labyrinth cd_labyrinth ct_labyrinth), sl_labyrinth⟩) (h3_labyrinth : PySem.W.codeIn K cd_labyrinth "labyrinth" = true) (h4_labyrinth : PySem.W.keepIn K (.ref a_labyrinth) = true)
    (h1_law_refused_u : PySem.W.nsIn K mainGlobals "_law_refused" = some (some (.ref a_law_refused_u))) (h2_law_refused_u : K.lookup a_law_refused_u = some ⟨oc_law_refused_u, od_law_refused_u, .func (PySem.W.fnOf "_law_refused" "_law_refused" (defArgs s_law_refused_u) (defBody s_law_refused_u) (defScope s_law_refused_u) .none kV_law_refused_u dc_law_refused_u pm_law_refused_u an_law_refused_u cd_law_refused_u ct_law_refused_u), sl_law_refused_u⟩) (h3_law_refused_u : PySem.W.codeIn K cd_law_refused_u "_law_refused" = true) (h4_law_refused_u : PySem.W.keepIn K (.ref a_law_refused_u) = true)
    (h1_check_order_u : PySem.W.nsIn K mainGlobals "_check_order" = some (some (.ref a_check_order_u))) (h2_check_order_u : K.lookup a_check_order_u = some ⟨oc_check_order_u, od_check_order_u, .func (PySem.W.fnOf "_check_order" "_check_order" (defArgs s_check_order_u) (defBody s_check_order_u) (defScope s_check_order_u) .none kV_check_order_u dc_check_order_u pm_check_order_u an_check_order_u cd_check_order_u ct_check_order_u), sl_check_order_u⟩) (h3_check_order_u : PySem.W.codeIn K cd_check_order_u "_check_order" = true) (h4_check_order_u : PySem.W.keepIn K (.ref a_check_order_u) = true)
    (h1_turned_order : PySem.W.nsIn K mainGlobals "turned_order" = some (some (.ref a_turned_order))) (h2_turned_order : K.lookup a_turned_order = some ⟨oc_turned_order, od_turned_order, .func (PySem.W.fnOf "turned_order" "turned_order" (defArgs s_turned_order) (defBody s_turned_order) (defScope s_turned_order) .none kV_turned_order dc_turned_order pm_turned_order an_turned_order cd_turned_order ct_turned_order), sl_turned_order⟩) (h3_turned_order : PySem.W.codeIn K cd_turned_order "turned_order" = true) (h4_turned_order : PySem.W.keepIn K (.ref a_turned_order) = true)
    (h1_law : PySem.W.nsIn K mainGlobals "law" = some (some (.ref a_law))) (h2_law : K.lookup a_law = some ⟨oc_law, od_law, .func (PySem.W.fnOf "law" "law" (defArgs s_law) (defBody s_law) (defScope s_law) .none kV_law dc_law pm_law an_law cd_law ct_law), sl_law⟩) (h3_law : PySem.W.codeIn K cd_law "law" = true) (h4_law : PySem.W.keepIn K (.ref a_law) = true) :
    ∃ fd : FuncData, (∀ (s : Shared) (u : Value), BindsTo s fd ⟨[u], []⟩ [("script", u)]) ∧ ∀ base : Heap, K.In base → base.Ns mainGlobals mg → FnOk P w K mg base (L2.CX P w) 7 fa fd ["script"] (spL K) := by
  have B : Facts K mg := facts_mk X G z_abs z_all z_any z_bool z_int z_isinstance z_len z_list z_max z_min z_range z_sorted z_tuple y_MOST_LEVELS y_MOST_LISTED e1_BadLevels e2_BadLevels e3_BadLevels e4_BadLevels e5_BadLevels e6_BadLevels e1_BadOrder e2_BadOrder e3_BadOrder e4_BadOrder e5_BadOrder e6_BadOrder x_BadLevels_BadLevels
  have r_law_draws_u : RawD K mg "_law_draws" s_law_draws_u ["script", "many"] := rawD_mk X G h1_law_draws_u h2_law_draws_u h3_law_draws_u h4_law_draws_u fun _ _ _ _ _ _ us hl => match us, hl with | [_, _], _ => rfl
  have r_law_fits_u : RawD K mg "_law_fits" s_law_fits_u ["row", "level"] := rawD_mk X G h1_law_fits_u h2_law_fits_u h3_law_fits_u h4_law_fits_u fun _ _ _ _ _ _ us hl => match us, hl with | [_, _], _ => rfl
  have r_law_all_u : RawD K mg "_law_all" s_law_all_u ["many"] := rawD_mk X G h1_law_all_u h2_law_all_u h3_law_all_u h4_law_all_u fun _ _ _ _ _ _ us hl => match us, hl with | [_], _ => rfl
  have r_is_whole : RawD K mg "is_whole" s_is_whole ["value", "least", "most"] := rawD_mk X G h1_is_whole h2_is_whole h3_is_whole h4_is_whole fun _ _ _ _ _ _ us hl => match us, hl with | [_, _, _], _ => rfl
  have r_check_many_u : RawD K mg "_check_many" s_check_many_u ["many", "most"] := rawD_mk X G h1_check_many_u h2_check_many_u h3_check_many_u h4_check_many_u fun _ _ _ _ _ _ us hl => match us, hl with | [_, _], _ => rfl
  have r_crosses_u : RawD K mg "_crosses" s_crosses_u ["order", "first", "second"] := rawD_mk X G h1_crosses_u h2_crosses_u h3_crosses_u h4_crosses_u fun _ _ _ _ _ _ us hl => match us, hl with | [_, _, _], _ => rfl
  have r_longer_u : RawD K mg "_longer" s_longer_u ["order", "many"] := rawD_mk X G h1_longer_u h2_longer_u h3_longer_u h4_longer_u fun _ _ _ _ _ _ us hl => match us, hl with | [_, _], _ => rfl
  have r_is_form_u : RawD K mg "_is_form" s_is_form_u ["value"] := rawD_mk X G h1_is_form_u h2_is_form_u h3_is_form_u h4_is_form_u fun _ _ _ _ _ _ us hl => match us, hl with | [_], _ => rfl
  have r_order_fault : RawD K mg "order_fault" s_order_fault ["value"] := rawD_mk X G h1_order_fault h2_order_fault h3_order_fault h4_order_fault fun _ _ _ _ _ _ us hl => match us, hl with | [_], _ => rfl
  have r_listed_u : RawD K mg "_listed" s_listed_u ["many"] := rawD_mk X G h1_listed_u h2_listed_u h3_listed_u h4_listed_u fun _ _ _ _ _ _ us hl => match us, hl with | [_], _ => rfl
  have r_labyrinths : RawD K mg "labyrinths" s_labyrinths ["many"] := rawD_mk X G h1_labyrinths h2_labyrinths h3_labyrinths h4_labyrinths fun _ _ _ _ _ _ us hl => match us, hl with | [_], _ => rfl
  have r_count_labyrinths : RawD K mg "count_labyrinths" s_count_labyrinths ["many"] := rawD_mk X G h1_count_labyrinths h2_count_labyrinths h3_count_labyrinths h4_count_labyrinths fun _ _ _ _ _ _ us hl => match us, hl with | [_], _ => rfl
  have r_labyrinth : RawD K mg "labyrinth" s_labyrinth ["many", "number"] := rawD_mk X G h1_labyrinth h2_labyrinth h3_labyrinth h4_labyrinth fun _ _ _ _ _ _ us hl => match us, hl with | [_, _], _ => rfl
  have r_law_refused_u : RawD K mg "_law_refused" s_law_refused_u ["call", "one", "two"] := rawD_mk X G h1_law_refused_u h2_law_refused_u h3_law_refused_u h4_law_refused_u fun _ _ _ _ _ _ us hl => match us, hl with | [_, _, _], _ => rfl
  have r_check_order_u : RawD K mg "_check_order" s_check_order_u ["order"] := rawD_mk X G h1_check_order_u h2_check_order_u h3_check_order_u h4_check_order_u fun _ _ _ _ _ _ us hl => match us, hl with | [_], _ => rfl
  have r_turned_order : RawD K mg "turned_order" s_turned_order ["order"] := rawD_mk X G h1_turned_order h2_turned_order h3_turned_order h4_turned_order fun _ _ _ _ _ _ us hl => match us, hl with | [_], _ => rfl
  have r_law : RawD K mg "law" s_law ["script"] := rawD_mk X G h1_law h2_law h3_law h4_law fun _ _ _ _ _ _ us hl => match us, hl with | [_], _ => rfl
  exact law_end hfa (all_ok B r_law_draws_u r_law_fits_u r_law_all_u r_is_whole r_check_many_u r_crosses_u r_longer_u r_is_form_u r_order_fault r_listed_u r_labyrinths r_count_labyrinths r_labyrinth r_law_refused_u r_check_order_u r_turned_order r_law) true_
end LW
set_option Elab.async false
set_option linter.all false
set_option maxRecDepth 100000
set_option maxHeartbeats 2000000
namespace LW
open PySem PySem.Spec PyProof.Rows L2 DL
theorem leS_int (x y : Int) : leS (.int x) (.int y) = decide (x ≤ y) := congrFun (congrFun (PySem.W.dataLe_int (fun (i : Int) => i)) x) y
theorem sort2 (p q : Nat) : sortF [tN [p, q]] = some (.lst [.int ((min p q : Nat) : Int), .int ((max p q : Nat) : Int)]) := by
  have ok : sortOk [.int (p : Int), .int (q : Int)] = true := by
    simp [sortOk, plainAll, DL.plain, sorty, toPy, PySem.W.alike, PyData.depth]
  show (if sortOk [.int (p : Int), .int (q : Int)] = true then some (D.lst (isort leS [.int (p : Int), .int (q : Int)])) else none) = _
  rw [if_pos ok]
  simp only [isort, insD, leS_int]
  by_cases c : p ≤ q
  · have : decide ((p : Int) ≤ (q : Int)) = true := by simpa using c
    rw [if_pos this, Nat.min_eq_left c, Nat.max_eq_right c]
  · have : ¬ decide ((p : Int) ≤ (q : Int)) = true := by simp; omega
    rw [if_neg this, Nat.min_eq_right (by omega), Nat.max_eq_left (by omega)]
theorem cut2 (xs : List Nat) (a : Nat) (ha : a + 1 < xs.length) : sliceD (tN xs) (some (a : Int)) (some ((a : Int) + 2)) = some (tN [xs.getD a 0, xs.getD (a + 1) 0]) := by
  have e : ((a : Int) + 2) = ((a + 2 : Nat) : Int) := by omega
  show some (D.tup (DL.cutD _ _ _)) = _
  rw [e]
  unfold DL.cutD
  rw [HT.sIx_nat, HT.sIx_nat, List.length_map]
  have e1 : min a xs.length = a := by omega
  have e2 : min (a + 2) xs.length - a = 2 := by omega
  rw [e1, e2]
  have : (xs.drop a).take 2 = [xs.getD a 0, xs.getD (a + 1) 0] := by
    rw [List.drop_eq_getElem_cons (show a < xs.length by omega), List.drop_eq_getElem_cons ha, List.take_succ_cons, List.take_succ_cons, List.take_zero]
    simp [List.getD_eq_getElem?_getD, ha, (by omega : a < xs.length)]
  rw [← List.map_drop, ← List.map_take, this]
  rfl
def crosses (xs : List Nat) (a b : Nat) : Bool :=
  let p := xs.getD a 0
  let q := xs.getD (a + 1) 0
  let u := xs.getD b 0
  let v := xs.getD (b + 1) 0
  (Nat.blt (min p q) u && Nat.blt u (max p q)) != (Nat.blt (min p q) v && Nat.blt v (max p q))
theorem blt_int (x y : Nat) : decide ((x : Int) < (y : Int)) = Nat.blt x y := by
  cases q : Nat.blt x y with
  | true => have := Nat.blt_eq.mp q; simpa using this
  | false => have : ¬ x < y := fun c => by rw [Nat.blt_eq.mpr c] at q; cases q
             simpa using this
theorem idx_tN1 {l : List Nat} {i : Nat} (h : i + 1 < l.length) : idxD (tN l) (.int ((i : Int) + 1)) = some (.int (l.getD (i + 1) 0 : Nat)) := by
  have := idx_tN h
  rwa [Int.natCast_add] at this
theorem crosses_ok (xs : List Nat) (a b : Nat) (ha : a + 1 < xs.length) (hb : b + 1 < xs.length) : f_crosses_u [tN xs, .int (a : Int), .int (b : Int)] = .ok (.bl (crosses xs a b)) := by
  refine runD_rt rfl ?_
  unfold g_crosses_u
  have h1 := idx_tN (l := xs) (i := b) (by omega)
  have h2 := idx_tN1 (l := xs) (i := b) hb
  have h3 := cut2 xs a ha
  unfold crosses
  generalize xs.getD a 0 = p at h3 ⊢
  generalize xs.getD (a + 1) 0 = q at h3 ⊢
  generalize xs.getD b 0 = u at h1 ⊢
  generalize xs.getD (b + 1) 0 = v at h2 ⊢
  simp only [← blt_int]
  generalize hlo : ((min p q : Nat) : Int) = lo
  generalize hhi : ((max p q : Nat) : Int) = hi
  simp [h3, sort2, sPut, put, puts, items, h1, h2, hlo, hhi]
  by_cases c1 : lo < (u : Int) <;> by_cases c2 : lo < (v : Int) <;> simp [c1, c2]
end LW
set_option Elab.async false
set_option linter.all false
set_option maxRecDepth 100000
set_option maxHeartbeats 2000000
namespace DL
open PySem PySem.Spec PyProof.Rows L2
theorem loop_map {T : Tg} {body : En → Fl} {ι β : Type} (I : ι → D) (S : Nat → β → En → Prop) (step : β → ι → β) {P : ι → Prop} (h : ∀ i r b env, P i → S (r + 1) b env → ∃ e e', put T (I i) env = some e ∧ (body e = .nx e' ∨ body e = .ct e') ∧ S r (step b i) e') :
    ∀ {l : List ι} {b : β} {env : En}, (∀ i ∈ l, P i) → S l.length b env → ∃ e', loop T body (l.map I) env = .nx e' ∧ S 0 (l.foldl step b) e'
  | [], b, env, _, hs => ⟨env, rfl, hs⟩
  | i :: l, b, env, hp, hs => by
    obtain ⟨e, e', h1, h2, h3⟩ := h i l.length b env (hp i List.mem_cons_self) hs
    obtain ⟨e2, h4, h5⟩ := loop_map I S step h (fun x hx => hp x (List.mem_cons_of_mem _ hx)) h3
    refine ⟨e2, ?_, h5⟩
    rw [List.map_cons, loop, h1]
    simp only
    rcases h2 with h2 | h2 <;> rw [h2] <;> exact h4
theorem foldl_app {ι α : Type} (p : ι → Bool) (F : ι → α) : ∀ (l : List ι) (acc : List α), l.foldl (fun acc i => if p i = true then acc ++ [F i] else acc) acc = acc ++ (l.filter p).map F
  | [], acc => by simp
  | i :: l, acc => by
    rw [List.foldl_cons, foldl_app p F l]
    cases q : p i with
    | true => simp [List.filter_cons, q]
    | false => simp [List.filter_cons, q]
theorem lt62 {n : Nat} (h : n ≤ 1000000) : n < 2 ^ 62 := Nat.lt_of_le_of_lt h (by decide)
theorem mem_by2 {a b k : Nat} (h : k ∈ by2 a b) : a ≤ k ∧ k < b := by
  obtain ⟨j, hj, rfl⟩ := List.mem_map.mp h
  rw [List.mem_range] at hj
  omega
theorem mem_upto {a b k : Nat} (h : k ∈ upto a b) : a ≤ k ∧ k < b := by
  obtain ⟨j, hj, rfl⟩ := List.mem_map.mp h
  rw [List.mem_range] at hj
  omega
theorem bls_map : ∀ (l : List Bool), blsD (l.map D.bl) = some l
  | [] => rfl
  | b :: l => by simp [blsD, bls_map l]
theorem any_bls {ι : Type} (l : List ι) (p : ι → Bool) : anyF [.lst (l.map fun i => .bl (p i))] = some (.bl (l.any p)) := by
  have : (l.map fun i => D.bl (p i)) = (l.map p).map D.bl := by rw [List.map_map]; rfl
  rw [this]
  show (blsD ((l.map p).map D.bl)).map (fun bs => D.bl (bs.any fun b => b)) = _
  rw [bls_map]
  simp [List.any_map, Function.comp_def]
theorem all_bls {ι : Type} (l : List ι) (p : ι → Bool) : allF [.lst (l.map fun i => .bl (p i))] = some (.bl (l.all p)) := by
  have : (l.map fun i => D.bl (p i)) = (l.map p).map D.bl := by rw [List.map_map]; rfl
  rw [this]
  show (blsD ((l.map p).map D.bl)).map (fun bs => D.bl (bs.all fun b => b)) = _
  rw [bls_map]
  simp [List.all_map, Function.comp_def]
end DL
namespace LW
open PySem PySem.Spec PyProof.Rows L2 DL
def fits (row : List Nat) (l : Nat) : Bool := !row.contains l && (Nat.beq ((l + row.getLastD 0) % 2) 1 && !(by2 ((row.length - 1) % 2) (row.length - 1)).any fun s => crosses (row ++ [l]) s (row.length - 1))
def longer (row : List Nat) (m : Nat) : List (List Nat) := ((upto 1 (m + 1)).filter (fits row)).map fun l => row ++ [l]
theorem longer_ok (row : List Nat) (m : Nat) (h0 : row ≠ []) (hr : row.length ≤ 100) (hm : m ≤ 100) : f_longer_u [tN row, .int (m : Int)] = .ok (.lst ((longer row m).map tN)) := by
  refine runD_rt rfl ?_
  unfold g_longer_u
  simp
  have e : ((m : Int) + 1) = ((m + 1 : Nat) : Int) := by omega
  have hr2 : rangeF2 [.int 1, .int ((m : Int) + 1)] = some (iN (upto 1 (m + 1))) := by
    rw [e]; exact rngF2 (a := 1) (lt62 (by omega)) (lt62 (by omega))
  simp [hr2]
  have key := loop_map (fun (n : Nat) => D.int (n : Int)) (T := .nm 3)
    (body := (sIf (eAndT (eB (eOp ninD (eVar 3) (eVar 0))) (eB (eOp eqD (eOp modD (eOp subD (eVar 3) (eOp idxD (eVar 0) (eNeg (eC (.int 1))))) (eC (.int 2))) (eC (.int 1))))) (sSeq (sSetI 4 (eOp addD (eVar 0) (eTup (eCons (eVar 3) eNil))))
  (sSeq (sSetI 5 (eOp subD (eCall lenF (eCons (eVar 4) eNil)) (eC (.int 2))))
  (sIf (eNotT (eB (eCall anyF (eCons (eComp [6] (.nm 6) (eRange rangeF3 (eCons (eOp modD (eVar 5) (eC (.int 2))) (eCons (eVar 5) (eCons (eC (.int 2)) eNil)))) eYes (eCallF 3 f_crosses_u (eCons (eVar 4) (eCons (eVar 6) (eCons (eVar 5) eNil))))) eNil)))) (sAppI 2 (eVar 4)) sNil))) sNil))
    (fun r (acc : List (List Nat)) env => acc.length + r ≤ 1000 ∧ ∃ lv lg ls, env = [.sh (tN row), .sh (.int (m : Int)), .ow (.lst (acc.map tN)), lv, lg, ls, .un])
    (fun acc l => if fits row l = true then acc ++ [row ++ [l]] else acc) (P := fun l => l ≤ 1000) (l := upto 1 (m + 1)) (b := []) (env := [.sh (tN row), .sh (.int (m : Int)), .ow (.lst []), .un, .un, .un, .un]) (by
      rintro l r acc env hl ⟨hz, lv, lg, ls, rfl⟩
      obtain ⟨last, hlast⟩ : ∃ last, last = row.length - 1 := ⟨_, rfl⟩
      have i1 := idx_last h0
      have g0 : row.getLastD 0 = row.getLast h0 := by rw [List.getLastD_eq_getLast?, List.getLast?_eq_some_getLast h0]; rfl
      have hs : row.length + 1 ≤ sizeLine := small_line (by omega)
      have hs2 : acc.length < sizeLine := by rw [sizeLine_val]; omega
      have ea : addD (tN row) (.tup [.int (l : Int)]) = some (tN (row ++ [l])) := add_tN (m := [l]) (by simpa using hs)
      have el : lenF [tN (row ++ [l])] = some (.int ((row.length : Int) + 1)) := by rw [len_tN]; simp
      have e2 : ((row.length : Int) + 1 - 2) = (last : Int) := by have := List.length_pos_iff.mpr h0; omega
      have er : rangeF3 [.int ((last : Int) % 2), .int (last : Int), .int 2] = some (iN (by2 (last % 2) last)) := by
          rw [show ((last : Int) % 2) = ((last % 2 : Nat) : Int) from by omega]; exact rngF3 (lt62 (by omega)) (lt62 (by omega))
      have ep : (((l : Int) - (row.getLast h0 : Nat)) % 2 == 1) = Nat.beq ((l + row.getLast h0) % 2) 1 := by
        cases q : Nat.beq ((l + row.getLast h0) % 2) 1 with
        | true => have := Nat.beq_eq.mp q; rw [beq_iff_eq]; omega
        | false => have : ¬ (l + row.getLast h0) % 2 = 1 := fun c => by rw [Nat.beq_eq.mpr c] at q; cases q
                   rw [beq_eq_false_iff_ne]; omega
      -- the crosses of a longer row
      have ec : ∀ (lv : Sl), eComp [6] (.nm 6) (eRange rangeF3 (eCons (eOp modD (eVar 5) (eC (.int 2))) (eCons (eVar 5) (eCons (eC (.int 2)) eNil)))) eYes (eCallF 3 f_crosses_u (eCons (eVar 4) (eCons (eVar 6) (eCons (eVar 5) eNil))))
          [.sh (tN row), .sh (.int (m : Int)), .ow (.lst (acc.map tN)), lv, .ow (tN (row ++ [l])), .ow (.int (last : Int)), .un] = .ok (.lst ((by2 (last % 2) last).map fun s => .bl (crosses (row ++ [l]) s last))) := fun lv => by
        refine eComp_yes (bs := by2 (last % 2) last) _ (fun (n : Nat) => D.int (n : Int)) ?_ (small_line (by simp [by2]; omega)) fun s hs => ?_
        · simp [er]; rfl
        · have := mem_by2 hs
          refine ⟨_, by simp [wipeE]; rfl, ?_⟩
          simp
          exact crosses_ok (row ++ [l]) s last (by simp; omega) (by simp; omega)
      have fin : fits row l = false → ∀ e : En, (∃ lv lg ls, e = [.sh (tN row), .sh (.int (m : Int)), .ow (.lst (acc.map tN)), lv, lg, ls, .un]) → ((if fits row l = true then acc ++ [row ++ [l]] else acc).length + r ≤ 1000 ∧ ∃ lv lg ls, e = [.sh (tN row), .sh (.int (m : Int)), .ow (.lst ((if fits row l = true then acc ++ [row ++ [l]] else acc).map tN)), lv, lg, ls, .un]) := fun this e he => by
        rw [if_neg (by rw [this]; exact Bool.false_ne_true)]
        exact ⟨by omega, he⟩
      by_cases c1 : l ∈ row
      · refine ⟨_, _, by simp; rfl, .inl (by simp [c1]; first | rfl | exact ⟨rfl, rfl, rfl⟩), fin ?_ _ ⟨_, _, _, rfl⟩⟩
        have : row.contains l = true := by simpa using c1
        unfold fits; rw [this]; rfl
      · have c1' : row.contains l = false := by simpa using c1
        cases c2 : Nat.beq ((l + row.getLast h0) % 2) 1 with
        | false =>
          refine ⟨_, _, by simp; rfl, .inl (by simp [c1, i1, ep, c2]; first | rfl | exact ⟨rfl, rfl, rfl⟩), fin ?_ _ ⟨_, _, _, rfl⟩⟩
          unfold fits; rw [g0, c2]; simp
        | true =>
          cases c3 : (by2 (last % 2) last).any fun s => crosses (row ++ [l]) s last with
          | true =>
            refine ⟨_, _, by simp; rfl, .inl (by simp [c1, i1, ep, c2, ea, el, e2, ec, any_bls, c3, -List.any_eq_true]; first | rfl | exact ⟨rfl, rfl, rfl⟩), fin ?_ _ ⟨_, _, _, rfl⟩⟩
            unfold fits; rw [← hlast, c3]; simp
          | false =>
            refine ⟨_, _, by simp; rfl, .inl (by simp [c1, i1, ep, c2, ea, el, e2, ec, any_bls, c3, onList, appL, hs2, -List.any_eq_true, -List.any_eq_false]; first | rfl | exact ⟨rfl, rfl, rfl⟩), ?_⟩
            have this : fits row l = true := by unfold fits; rw [← hlast, c3, g0, c2, c1']; rfl
            show (if fits row l = true then acc ++ [row ++ [l]] else acc).length + r ≤ 1000 ∧ ∃ lv lg ls, _ = [_, _, Sl.ow (.lst ((if fits row l = true then acc ++ [row ++ [l]] else acc).map tN)), lv, lg, ls, _]
            rw [if_pos this]
            exact ⟨by simp; omega, _, _, _, by simp; exact ⟨rfl, rfl, rfl⟩⟩)
    (fun l hl => by have := mem_upto hl; omega) ⟨by simp [upto]; omega, _, _, _, rfl⟩
  obtain ⟨e', h1, h2⟩ := key
  rw [foldl_app] at h2
  obtain ⟨_, lv, lg, ls, rfl⟩ := h2
  rw [show iN (upto 1 (m + 1)) = (upto 1 (m + 1)).map (fun (n : Nat) => D.int (n : Int)) from rfl, h1]
  rfl
end LW
set_option Elab.async false
set_option linter.all false
set_option maxRecDepth 100000
set_option maxHeartbeats 2000000
namespace LW
open PySem PySem.Spec PyProof.Rows L2 DL
theorem isi_of {d : D} {a n : String} {b : Bool} (h : tyName d = some a) (h2 : subTy a n = some b) : isiF [d, .ty n] = some (.bl b) := by
  show (isiB d n).map D.bl = _
  unfold isiB
  rw [h]
  show (subTy a n).map D.bl = _
  rw [h2]; rfl
@[simp] theorem isi_ii (i : Int) : isiF [.int i, .ty "int"] = some (.bl true) := isi_of (a := "int") rfl (by decide +kernel)
@[simp] theorem isi_ib (i : Int) : isiF [.int i, .ty "bool"] = some (.bl false) := isi_of (a := "int") rfl (by decide +kernel)
@[simp] theorem isi_bi (b : Bool) : isiF [.bl b, .ty "int"] = some (.bl true) := isi_of (a := "bool") rfl (by decide +kernel)
@[simp] theorem isi_bb (b : Bool) : isiF [.bl b, .ty "bool"] = some (.bl true) := isi_of (a := "bool") rfl (by decide +kernel)
@[simp] theorem isi_ni : isiF [.non, .ty "int"] = some (.bl false) := isi_of (a := "NoneType") rfl (by decide +kernel)
@[simp] theorem isi_si (s : Str) : isiF [.str s, .ty "int"] = some (.bl false) := isi_of (a := "str") rfl (by decide +kernel)
@[simp] theorem isi_tt (l : List Nat) : isiF [tN l, .ty "tuple"] = some (.bl true) := isi_of (a := "tuple") rfl (by decide +kernel)
theorem is_whole_int (v a b : Int) : f_is_whole [.int v, .int a, .int b] = .ok (.bl (decide (a ≤ v) && decide (v ≤ b))) := by
  refine runD_rt rfl ?_
  unfold g_is_whole
  by_cases c : a ≤ v <;> simp [c]
theorem is_whole_bl (v : Bool) (a b : Int) : f_is_whole [.bl v, .int a, .int b] = .ok (.bl false) := by
  refine runD_rt rfl ?_
  unfold g_is_whole
  simp
theorem is_whole_non (a b : Int) : f_is_whole [.non, .int a, .int b] = .ok (.bl false) := by
  refine runD_rt rfl ?_
  unfold g_is_whole
  simp
theorem is_whole_str (s : Str) (a b : Int) : f_is_whole [.str s, .int a, .int b] = .ok (.bl false) := by
  refine runD_rt rfl ?_
  unfold g_is_whole
  simp
theorem check_yes (v b : Int) (h : 0 ≤ v) (h2 : v ≤ b) : f_check_many_u [.int v, .int b] = .ok .non := by
  refine runD_nx (e := [.sh (.int v), .sh (.int b)]) rfl ?_
  unfold g_check_many_u
  simp [is_whole_int, h, h2]
theorem check_no (d : D) (b : Int) (h : f_is_whole [d, .int 0, .int b] = .ok (.bl false)) : f_check_many_u [d, .int b] = .ex "BadLevels" := by
  refine runD_ex (e := [.sh d, .sh (.int b)]) rfl ?_
  unfold g_check_many_u
  simp [h]
/-! ### the form -/
theorem sort_ints (l : List Nat) : sortF [tN l] = some (.lst (iN (isort Nat.ble l))) := by
  have ok : sortOk (iN l) = true := by
    simp only [sortOk, Bool.and_eq_true]
    refine ⟨⟨⟨?_, ?_⟩, ?_⟩, ?_⟩
    · simp [iN, plainAll_all, DL.plain]
    · simp only [sorty, Bool.or_eq_true]
      right
      simp [iN, toPy]
    · simp [iN, toPy, PySem.W.alike]
    · simp [iN, toPy, PyData.depth]
  show (if sortOk (iN l) = true then some (D.lst (isort leS (iN l))) else none) = _
  rw [if_pos ok]
  congr 2
  have ins : ∀ (a : Nat) (l : List Nat), insD leS (.int (a : Int)) (iN l) = iN (insD Nat.ble a l) := fun a l => by
    induction l with
    | nil => rfl
    | cons b l ih =>
      have e : iN (b :: l) = .int (b : Int) :: iN l := rfl
      have c : leS (.int (a : Int)) (.int (b : Int)) = Nat.ble a b := by
        rw [leS_int]
        cases q : Nat.ble a b with
        | true => have := Nat.le_of_ble_eq_true q; simpa using this
        | false => have : ¬ a ≤ b := fun h => by rw [Nat.ble_eq_true_of_le h] at q; cases q
                   simpa using this
      rw [e]
      unfold insD
      rw [c]
      split
      · rfl
      · rw [ih]; rfl
  induction l with
  | nil => rfl
  | cons a l ih =>
    have ok2 : sortOk (iN l) = true := by
      simp only [sortOk, Bool.and_eq_true]
      refine ⟨⟨⟨?_, ?_⟩, ?_⟩, ?_⟩
      · simp [iN, plainAll_all, DL.plain]
      · simp only [sorty, Bool.or_eq_true]
        right
        simp [iN, toPy]
      · simp [iN, toPy, PySem.W.alike]
      · simp [iN, toPy, PyData.depth]
    have e : iN (a :: l) = .int (a : Int) :: iN l := rfl
    rw [e]
    unfold isort
    rw [ih ok2, ins]
theorem okE_iN (l : List Nat) : okE (.lst (iN l)) = true := by
  refine okE_of ?_ ?_ ?_
  · simp [DL.plain, plainAll_all, iN]
  · simp [toPy, PyData.canLay0, canLayAll_all, toPyAll_map', iN]
  · simp only [toPy, PyData.depth, toPyAll_map', iN, List.map_map]
    have : PyData.depthAll (l.map (toPy ∘ fun (n : Nat) => D.int (n : Int))) ≤ 0 := depthAll_le fun d hd => by
      obtain ⟨n, _, rfl⟩ := List.mem_map.mp hd
      simp [toPy, PyData.depth]
    omega
theorem neD_iN (l m : List Nat) : neD (.lst (iN l)) (.lst (iN m)) = some (.bl (!decide (l = m))) := by
  simp only [neD, fitE, okE_iN, Bool.and_self, Bool.or_true, if_true]
  congr 2
  simp only [eqv, toPy, PyData.eqv]
  have := eqvAll_nats l m
  rw [show iN l = l.map fun (n : Nat) => D.int (n : Int) from rfl, show iN m = m.map fun (n : Nat) => D.int (n : Int) from rfl, this]
theorem lrg_nat {n : Nat} (h : n ≤ 1000) : lrgF1 [.int (n : Int)] = some (.lst (iN (List.range n))) := by
  have : okRg 0 (n : Int) = true := by
    simp only [okRg, Bool.and_eq_true, decide_eq_true_eq]
    refine ⟨⟨⟨⟨by omega, by omega⟩, by omega⟩, by omega⟩, by omega⟩
  show (if okRg 0 (n : Int) = true then some (D.lst (rngD 0 (n : Int).toNat 1)) else none) = _
  rw [if_pos this, Int.toNat_natCast, rng_nat]
def form (xs : List Nat) : Bool := Nat.ble 2 xs.length && (Nat.ble xs.length 14 && (xs.all (fun x => Nat.ble x (xs.length - 1)) && (decide (isort Nat.ble xs = List.range xs.length) && (Nat.beq (xs.getD 0 1) 0 && Nat.beq (xs.getLastD 0) (xs.length - 1)))))
theorem form_ok (xs : List Nat) (h : form xs = true) : f_is_form_u [tN xs] = .ok (.bl true) := by
  simp only [form, Bool.and_eq_true, Nat.ble_eq, Nat.beq_eq, decide_eq_true_eq, List.all_eq_true] at h
  obtain ⟨h1, h2, h3, h4, h5, h6⟩ := h
  have hne : xs ≠ [] := fun z => by subst z; simp at h1
  refine runD_rt rfl ?_
  unfold g_is_form_u
  have ec : eComp [1] (.nm 1) (eIter (eVar 0)) eYes (eCallF 3 f_is_whole (eCons (eVar 1) (eCons (eC (.int 0)) (eCons (eOp subD (eCall lenF (eCons (eVar 0) eNil)) (eC (.int 1))) eNil)))) [.sh (tN xs), .un] = .ok (.lst (xs.map fun x => .bl true)) := by
    refine eComp_yes (bs := xs) _ (fun (n : Nat) => D.int (n : Int)) (by simp; rfl) (small_line (by omega)) fun x hx => ⟨_, by simp [wipeE]; rfl, ?_⟩
    have := h3 x hx
    simp [is_whole_int]
    omega
  have el : (xs.length : Int) ≤ 14 := by omega
  have el2 : (2 : Int) ≤ (xs.length : Int) := by omega
  have i0 := idx_tN (l := xs) (i := 0) (by omega)
  rw [List.getD_eq_getElem?_getD] at h5 i0
  have g5 : xs[0]?.getD 0 = 0 := by
    cases q : xs[0]? with
    | none => rfl
    | some v => rw [q] at h5; exact h5
  rw [g5] at i0
  have i1 := idx_last hne
  have g0 : xs.getLastD 0 = xs.getLast hne := by rw [List.getLastD_eq_getLast?, List.getLast?_eq_some_getLast hne]; rfl
  rw [← g0, h6] at i1
  have e6 : (((xs.length - 1 : Nat) : Int) == (xs.length : Int) - 1) = true := by rw [beq_iff_eq]; omega
  have al : allF [.lst (xs.map fun x => .bl true)] = some (.bl true) := by
    rw [all_bls (p := fun _ => true)]; simp
  simp [el, el2, ec, al, sort_ints, lrg_nat (show xs.length ≤ 1000 by omega), neD_iN, h4]
  simp [show idxD (tN xs) (.int 0) = some (.int 0) from i0, i1, e6]
end LW
set_option Elab.async false
set_option linter.all false
set_option maxRecDepth 100000
set_option maxHeartbeats 2000000
namespace LW
open PySem PySem.Spec PyProof.Rows L2 DL
/-- no step to a level of the same kind, no two steps that cross -/
def good (xs : List Nat) : Bool := form xs && ((List.range (xs.length - 1)).all (fun s => Nat.beq ((xs.getD s 0 + xs.getD (s + 1) 0) % 2) 1) && (List.range (xs.length - 1)).all fun a => (by2 (a + 2) (xs.length - 1)).all fun b => !crosses xs a b)
theorem good_ok (xs : List Nat) (h : good xs = true) : f_order_fault [tN xs] = .ok .non := by
  simp only [good, Bool.and_eq_true, List.all_eq_true, List.mem_range, Nat.beq_eq, Bool.not_eq_true'] at h
  obtain ⟨h1, h2, h3⟩ := h
  have hf := form_ok xs h1
  simp only [form, Bool.and_eq_true, Nat.ble_eq] at h1
  obtain ⟨z1, z2, _⟩ := h1
  refine runD_rt rfl ?_
  unfold g_order_fault
  have el : ((xs.length : Int) - 1) = ((xs.length - 1 : Nat) : Int) := by omega
  have er : rangeF1 [.int ((xs.length : Int) - 1)] = some (iN (List.range (xs.length - 1))) := by rw [el]; exact rngF1 (lt62 (by omega))
  have l1 := loop_map (fun (n : Nat) => D.int (n : Int)) (T := .nm 1)
    (body := (sIf (eB (eOp eqD (eOp modD (eOp subD (eOp idxD (eVar 0) (eVar 1)) (eOp idxD (eVar 0) (eOp addD (eVar 1) (eC (.int 1))))) (eC (.int 2))) (eC (.int 0)))) (sRet (eTop (eTup (eCons (eC (.str "turn")) (eCons (eVar 1) eNil))))) sNil))
    (fun _ (_ : Unit) env => ∃ s, env = [.sh (tN xs), s, .un, .un]) (fun _ _ => ()) (P := fun s => s < xs.length - 1) (l := List.range (xs.length - 1)) (b := ()) (env := [.sh (tN xs), .un, .un, .un]) (by
      rintro s r _ env hs ⟨s1, rfl⟩
      have i1 := idx_tN (l := xs) (i := s) (by omega)
      have i2 := idx_tN1 (l := xs) (i := s) (by omega)
      have q := h2 s hs
      generalize xs.getD s 0 = u at i1 q
      generalize xs.getD (s + 1) 0 = v at i2 q
      have e : (((u : Int) - (v : Int)) % 2 == 0) = false := by rw [beq_eq_false_iff_ne]; omega
      exact ⟨_, _, by simp; rfl, .inl (by simp [i1, i2, e]; rfl), _, rfl⟩) (fun s hs => List.mem_range.mp hs) ⟨_, rfl⟩
  obtain ⟨e1, l1, s1, rfl⟩ := l1
  have l2 := loop_map (fun (n : Nat) => D.int (n : Int)) (T := .nm 2)
    (body := (sForF (.nm 3) (eRange rangeF3 (eCons (eOp addD (eVar 2) (eC (.int 2))) (eCons (eOp subD (eCall lenF (eCons (eVar 0) eNil)) (eC (.int 1))) (eCons (eC (.int 2)) eNil))))
  (sIf (eB (eCallF 3 f_crosses_u (eCons (eVar 0) (eCons (eVar 2) (eCons (eVar 3) eNil))))) (sRet (eTop (eTup (eCons (eC (.str "crossing")) (eCons (eVar 2) (eCons (eVar 3) eNil)))))) sNil)))
    (fun _ (_ : Unit) env => ∃ s2 s3, env = [.sh (tN xs), s1, s2, s3]) (fun _ _ => ()) (P := fun s => s < xs.length - 1) (l := List.range (xs.length - 1)) (b := ()) (env := [.sh (tN xs), s1, .un, .un]) (by
      rintro a r _ env ha ⟨s2, s3, rfl⟩
      have er3 : rangeF3 [.int ((a : Int) + 2), .int ((xs.length : Int) - 1), .int 2] = some (iN (by2 (a + 2) (xs.length - 1))) := by
        rw [el, show ((a : Int) + 2) = ((a + 2 : Nat) : Int) from by omega]; exact rngF3 (lt62 (by omega)) (lt62 (by omega))
      have l3 := loop_map (fun (n : Nat) => D.int (n : Int)) (T := .nm 3)
        (body := (sIf (eB (eCallF 3 f_crosses_u (eCons (eVar 0) (eCons (eVar 2) (eCons (eVar 3) eNil))))) (sRet (eTop (eTup (eCons (eC (.str "crossing")) (eCons (eVar 2) (eCons (eVar 3) eNil)))))) sNil))
        (fun _ (_ : Unit) env => ∃ s3, env = [.sh (tN xs), s1, .sh (.int (a : Int)), s3]) (fun _ _ => ()) (P := fun b => b < xs.length - 1 ∧ crosses xs a b = false) (l := by2 (a + 2) (xs.length - 1)) (b := ()) (env := [.sh (tN xs), s1, .sh (.int (a : Int)), s3]) (by
          rintro b r _ env ⟨hb, hc⟩ ⟨s3, rfl⟩
          exact ⟨_, _, by simp; rfl, .inl (by simp [crosses_ok xs a b (by omega) (by omega), hc]; rfl), _, rfl⟩) (fun b hb => ⟨(mem_by2 hb).2, h3 a ha b hb⟩) ⟨_, rfl⟩
      obtain ⟨e3, l3, s3', rfl⟩ := l3
      refine ⟨_, [.sh (tN xs), s1, .sh (.int (a : Int)), s3'], by simp; rfl, .inl ?_, _, _, rfl⟩
      simp [er3]
      exact l3) (fun s hs => List.mem_range.mp hs) ⟨_, _, rfl⟩
  obtain ⟨e2, l2, s2, s3, rfl⟩ := l2
  simp [hf, er]
  rw [show iN (List.range (xs.length - 1)) = (List.range (xs.length - 1)).map (fun (n : Nat) => D.int (n : Int)) from rfl, l1]
  simp [er]
  rw [show iN (List.range (xs.length - 1)) = (List.range (xs.length - 1)).map (fun (n : Nat) => D.int (n : Int)) from rfl, l2]
theorem check_order (xs : List Nat) (h : good xs = true) : f_check_order_u [tN xs] = .ok .non := by
  refine runD_nx (e := [.sh (tN xs)]) rfl ?_
  unfold g_check_order_u
  simp [good_ok xs h]
/-- turned about -/
def turn (xs : List Nat) : List Nat := xs.reverse.map fun x => xs.getLastD 0 - x
theorem rev_tN (l : List Nat) : revD (tN l) = some (tN l.reverse) := by simp [revD, tN]
theorem turned_ok (xs : List Nat) (h : good xs = true) : f_turned_order [tN xs] = .ok (tN (turn xs)) := by
  have hc := check_order xs h
  simp only [good, Bool.and_eq_true] at h
  have h1 := h.1
  simp only [form, Bool.and_eq_true, Nat.ble_eq, Nat.beq_eq, decide_eq_true_eq, List.all_eq_true] at h1
  obtain ⟨z1, z2, z3, _, _, z6⟩ := h1
  have hne : xs ≠ [] := fun z => by subst z; simp at z1
  have i1 := idx_last hne
  have g0 : xs.getLastD 0 = xs.getLast hne := by rw [List.getLastD_eq_getLast?, List.getLast?_eq_some_getLast hne]; rfl
  rw [← g0] at i1
  refine runD_rt rfl ?_
  unfold g_turned_order turn
  clear g0
  generalize xs.getLastD 0 = last at i1 z6 ⊢
  obtain ⟨ys, hys⟩ : ∃ ys, ys = (xs.reverse.map fun x => D.int ((last - x : Nat) : Int)) := ⟨_, rfl⟩
  have ec : eComp [1] (.nm 1) (eIter (eRev (eVar 0))) eYes (eOp subD (eOp idxD (eVar 0) (eNeg (eC (.int 1)))) (eVar 1)) [.sh (tN xs), .un] = .ok (.lst ys) := by
    rw [hys]
    refine eComp_yes (bs := xs.reverse) _ (fun (n : Nat) => D.int (n : Int)) (by simp [rev_tN, iN]) (small_line (by simp; omega)) fun x hx => ⟨_, by simp [wipeE]; rfl, ?_⟩
    have := z3 x (List.mem_reverse.mp hx)
    simp [i1]
    omega
  have et : tupleF [.lst ys] = some (tN (xs.reverse.map fun x => last - x)) := by
    show some (D.tup ys) = some (D.tup _)
    rw [hys, List.map_map]; rfl
  have it : immTop (tN (xs.reverse.map fun x => last - x)) = true := immTop_tN _
  generalize tN (xs.reverse.map fun x => last - x) = t at et it ⊢
  simp [hc, ec, et, it]
end LW
set_option Elab.async false
set_option linter.all false
set_option maxRecDepth 100000
set_option maxHeartbeats 2000000
namespace DL
open PySem PySem.Spec PyProof.Rows L2
theorem loop_all {T : Tg} {body : En → Fl} {ι : Type} (I : ι → D) (S : En → Prop) (ok : ι → Bool) (v : D) {P : ι → Prop} (h : ∀ i env, P i → S env → ∃ e, put T (I i) env = some e ∧ (ok i = true → ∃ e', (body e = .nx e' ∨ body e = .ct e') ∧ S e') ∧ (ok i = false → body e = .rt v)) :
    ∀ {l : List ι} {env : En}, (∀ i ∈ l, P i) → S env → (l.all ok = true → ∃ e', loop T body (l.map I) env = .nx e' ∧ S e') ∧ (l.all ok = false → loop T body (l.map I) env = .rt v)
  | [], env, _, hs => ⟨fun _ => ⟨env, rfl, hs⟩, fun z => by simp at z⟩
  | i :: l, env, hp, hs => by
    obtain ⟨e, h1, h2, h3⟩ := h i env (hp i List.mem_cons_self) hs
    rw [List.map_cons, loop, h1]
    simp only [List.all_cons]
    cases q : ok i with
    | false =>
      refine ⟨fun z => by simp at z, fun _ => ?_⟩
      rw [h3 q]
    | true =>
      obtain ⟨e', h4, h5⟩ := h2 q
      have ih := loop_all I S ok v h (fun x hx => hp x (List.mem_cons_of_mem _ hx)) h5
      rcases h4 with h4 | h4 <;> rw [h4] <;> simpa using ih
end DL
namespace LW
open PySem PySem.Spec PyProof.Rows L2 DL
def lone (row : List Nat) (l k : Nat) : Bool := Nat.beq (([row.getD k 0, row.getD (k + 1) 0].filter fun x => Nat.blt (min (row.getLastD 0) l) x && Nat.blt x (max (row.getLastD 0) l)).length) 1
def lfits (row : List Nat) (l : Nat) : Bool := (by2 ((row.length - 1) % 2) (row.length - 1)).all fun k => !lone row l k
theorem lfits_ok (row : List Nat) (l : Nat) (h0 : row ≠ []) (hr : row.length ≤ 100) : f_law_fits_u [tN row, .int (l : Int)] = .ok (.bl (lfits row l)) := by
  obtain ⟨last, hlast⟩ : ∃ last, last = row.length - 1 := ⟨_, rfl⟩
  have hpos := List.length_pos_iff.mpr h0
  have i1 := idx_last h0
  have g0 : row.getLastD 0 = row.getLast h0 := by rw [List.getLastD_eq_getLast?, List.getLast?_eq_some_getLast h0]; rfl
  rw [← g0] at i1
  unfold lfits lone
  rw [← hlast]
  generalize row.getLastD 0 = q at i1 ⊢
  have emin : minF [.int (q : Int), .int (l : Int)] = some (.int ((min q l : Nat) : Int)) := by
    show some (D.int (if (l : Int) < (q : Int) then (l : Int) else (q : Int))) = _
    congr 2; split <;> omega
  have emax : maxF [.int (q : Int), .int (l : Int)] = some (.int ((max q l : Nat) : Int)) := by
    show some (D.int (if (l : Int) > (q : Int) then (l : Int) else (q : Int))) = _
    congr 2; split <;> omega
  generalize min q l = lo at emin ⊢
  generalize max q l = hi at emax ⊢
  have el : ((row.length : Int) - 1) = (last : Int) := by omega
  have er : rangeF3 [.int ((last : Int) % 2), .int (last : Int), .int 2] = some (iN (by2 (last % 2) last)) := by
    rw [show ((last : Int) % 2) = ((last % 2 : Nat) : Int) from by omega]; exact rngF3 (lt62 (by omega)) (lt62 (by omega))
  have ls := loop_all (fun (n : Nat) => D.int (n : Int)) (T := .nm 2)
    (body := (sIf (eB (eOp eqD (eCall lenF (eCons (eComp [5] (.nm 5) (eIter (eSl (eVar 0) (ePart (eVar 2)) (ePart (eOp addD (eVar 2) (eC (.int 2)))))) (eB (eCh ltD ltD (eVar 3) (eVar 5) (eVar 4))) (eVar 5)) eNil)) (eC (.int 1)))) (sRet (eImm (eC (.bl false)))) sNil))
    (fun env => ∃ s, env = [.sh (tN row), .sh (.int (l : Int)), s, .sh (.int (lo : Int)), .sh (.int (hi : Int)), .un])
    (fun k => !Nat.beq (([row.getD k 0, row.getD (k + 1) 0].filter fun x => Nat.blt lo x && Nat.blt x hi).length) 1) (.bl false) (P := fun k => k < last) (l := by2 (last % 2) last)
    (env := [.sh (tN row), .sh (.int (l : Int)), .un, .sh (.int (lo : Int)), .sh (.int (hi : Int)), .un]) (by
      rintro k env hk ⟨s, rfl⟩
      have hc := cut2 row k (by omega)
      generalize row.getD k 0 = u at hc ⊢
      generalize row.getD (k + 1) 0 = v at hc ⊢
      have ec : eComp [5] (.nm 5) (eIter (eSl (eVar 0) (ePart (eVar 2)) (ePart (eOp addD (eVar 2) (eC (.int 2)))))) (eB (eCh ltD ltD (eVar 3) (eVar 5) (eVar 4))) (eVar 5) [.sh (tN row), .sh (.int (l : Int)), .sh (.int (k : Int)), .sh (.int (lo : Int)), .sh (.int (hi : Int)), .un] =
          .ok (.lst (([u, v].filter fun x => Nat.blt lo x && Nat.blt x hi).map fun (n : Nat) => D.int (n : Int))) := by
        refine eComp_eq (bs := [u, v]) _ _ (fun (n : Nat) => D.int (n : Int)) (by simp [hc]; rfl) (small_line (by simp)) fun x hx => ⟨_, by simp [wipeE]; rfl, ?_, fun _ => by simp⟩
        simp only [← blt_int]
        by_cases c1 : (lo : Int) < (x : Int) <;> simp [c1]
      generalize ([u, v].filter fun x => Nat.blt lo x && Nat.blt x hi) = ys at ec ⊢
      have e1 : ((ys.length : Int) == 1) = Nat.beq ys.length 1 := by
        cases q : Nat.beq ys.length 1 with
        | true => have := Nat.beq_eq.mp q; rw [beq_iff_eq]; omega
        | false => have : ¬ ys.length = 1 := fun c => by rw [Nat.beq_eq.mpr c] at q; cases q
                   rw [beq_eq_false_iff_ne]; omega
      refine ⟨_, by simp; rfl, fun h => ⟨_, .inl (by simp only [Bool.not_eq_true'] at h; simp [ec, e1, h]; rfl), _, rfl⟩, fun h => ?_⟩
      have h' : Nat.beq ys.length 1 = true := by simpa using h
      simp [ec, e1, h']) (fun k hk => (mem_by2 hk).2) ⟨_, rfl⟩
  generalize ((by2 (last % 2) last).all fun k => !Nat.beq (([row.getD k 0, row.getD (k + 1) 0].filter fun x => Nat.blt lo x && Nat.blt x hi).length) 1) = b at ls ⊢
  refine runD_rt rfl ?_
  unfold g_law_fits_u
  simp [i1, emin, emax, sPut, put, puts, items, el, er]
  rw [show iN (by2 (last % 2) last) = (by2 (last % 2) last).map (fun (n : Nat) => D.int (n : Int)) from rfl]
  cases b with
  | true =>
    obtain ⟨e', h1, s, rfl⟩ := ls.1 rfl
    rw [h1]
  | false =>
    rw [ls.2 rfl]
end LW
set_option Elab.async false
set_option linter.all false
set_option maxRecDepth 100000
set_option maxHeartbeats 2000000
namespace LW
open PySem PySem.Spec PyProof.Rows L2 DL
/-- n rounds, each row made longer in all ways; never more than a million rows -/
def run (ext : List Nat → List (List Nat)) : Nat → List (List Nat) → Option (List (List Nat))
  | 0, rows => some rows
  | n + 1, rows => if Nat.ble (rows.flatMap ext).length 1000000 = true then run ext n (rows.flatMap ext) else none
theorem run_length {ext : List Nat → List (List Nat)} : ∀ {n : Nat} {rows out : List (List Nat)}, rows.length ≤ 1000000 → run ext n rows = some out → out.length ≤ 1000000
  | 0, rows, out, h, e => by cases e; exact h
  | n + 1, rows, out, h, e => by
    unfold run at e
    split at e
    · rename_i z
      exact run_length (Nat.le_of_ble_eq_true z) e
    · cases e
/-- rows of a round -/
def Rows (k : Nat) (rows : List (List Nat)) : Prop := ∀ row ∈ rows, row ≠ [] ∧ row.length = k
theorem rows_step {ext : List Nat → List (List Nat)} {k : Nat} {rows : List (List Nat)} (he : ∀ row, ∀ r ∈ ext row, ∃ l, r = row ++ [l]) (h : Rows k rows) : Rows (k + 1) (rows.flatMap ext) := fun r hr => by
  obtain ⟨row, h1, h2⟩ := List.mem_flatMap.mp hr
  obtain ⟨l, rfl⟩ := he row r h2
  obtain ⟨q1, q2⟩ := h row h1
  exact ⟨by simp, by simp [q2]⟩
theorem ext_longer (m : Nat) (row : List Nat) : ∀ r ∈ longer row m, ∃ l, r = row ++ [l] := fun r hr => by
  obtain ⟨l, _, rfl⟩ := List.mem_map.mp hr
  exact ⟨l, rfl⟩
theorem extL_ok {i : Nat} {xs zs : List D} {env : En} (h : xs.length + zs.length ≤ sizeLine) : extL i xs (.lst zs) env = .nx (env.set i (.ow (.lst (xs ++ zs)))) := by
  show (if xs.length + zs.length ≤ sizeLine then _ else _) = _
  rw [if_pos h]
theorem flat_len (ext : List Nat → List (List Nat)) (row : List Nat) (rows : List (List Nat)) : ((row :: rows).flatMap ext).length = (ext row).length + (rows.flatMap ext).length := by simp
/-- the rows of a round, one by one -/
theorem rows_loop {T : Tg} {body : En → Fl} {ext : List Nat → List (List Nat)} {k : Nat} (S : List (List Nat) → En → Prop) (hb : ∀ row acc env, row ≠ [] → row.length = k → acc.length + (ext row).length ≤ 1000000 → S acc env → ∃ e e', put T (tN row) env = some e ∧ body e = .nx e' ∧ S (acc ++ ext row) e') :
    ∀ {rows acc : List (List Nat)} {env : En}, Rows k rows → acc.length + (rows.flatMap ext).length ≤ 1000000 → S acc env → ∃ e', loop T body (rows.map tN) env = .nx e' ∧ S (acc ++ rows.flatMap ext) e'
  | [], acc, env, _, _, hs => ⟨env, rfl, by simpa using hs⟩
  | row :: rows, acc, env, hr, hl, hs => by
    rw [flat_len] at hl
    obtain ⟨q1, q2⟩ := hr row List.mem_cons_self
    obtain ⟨e, e', h1, h2, h3⟩ := hb row acc env q1 q2 (by omega) hs
    obtain ⟨e2, h4, h5⟩ := rows_loop S hb (rows := rows) (acc := acc ++ ext row) (fun r hr' => hr r (List.mem_cons_of_mem _ hr')) (by rw [List.length_append]; omega) h3
    refine ⟨e2, ?_, by simpa using h5⟩
    rw [List.map_cons, loop, h1]
    simp only
    rw [h2]
    exact h4
/-! ### the listing -/
theorem listed_step (m : Nat) (hm : m ≤ 50) (rows : List (List Nat)) (k : Nat) (hk : k ≤ 60) (hR : Rows k rows) (hl : (rows.flatMap fun r => longer r m).length ≤ 1000000) (s1 s4 s5 : Sl) (h1 : s1.val = some (.lst (rows.map tN))) (t : D) :
    ∃ s5', (sSeq (sSetF 4 (eTop (eLst eNil)))
  (sSeq (sForS [1] (.nm 5) (eIter (eVar 1))
  (sExtI 4 (eCallF 2 f_longer_u (eCons (eVar 5) (eCons (eVar 0) eNil)))))
  (sSetN 1 4))) [.sh (.int (m : Int)), s1, .sh t, .un, s4, s5] = .nx [.sh (.int (m : Int)), .sh (.lst ((rows.flatMap fun r => longer r m).map tN)), .sh t, .un, .sh (.lst ((rows.flatMap fun r => longer r m).map tN)), s5'] := by
  have lp := rows_loop (T := .nm 5) (body := sExtI 4 (eCallF 2 f_longer_u (eCons (eVar 5) (eCons (eVar 0) eNil)))) (ext := fun r => longer r m) (k := k)
    (fun acc env => ∃ s5, env = [.sh (.int (m : Int)), .sh (.lst (rows.map tN)), .sh t, .un, .ow (.lst (acc.map tN)), s5]) (by
      rintro row acc env q1 q2 hz ⟨s, rfl⟩
      have lo := longer_ok row m q1 (by omega) (by omega)
      refine ⟨_, _, by simp; rfl, by simp [onList, lo, extL_ok (show (acc.map tN).length + ((longer row m).map tN).length ≤ sizeLine from small_line (by simpa using hz))]; rfl, _, by simp; rfl⟩)
    (rows := rows) (acc := []) (env := [.sh (.int (m : Int)), .sh (.lst (rows.map tN)), .sh t, .un, .ow (.lst []), s5]) hR (by simpa using hl) ⟨_, rfl⟩
  obtain ⟨e', l1, s5', rfl⟩ := lp
  refine ⟨s5', ?_⟩
  cases s1 with
  | un => cases h1
  | sh d =>
    cases h1
    simp [sForS, freezes, freeze]
    rw [l1]
    simp [sSetN, freeze, look]
  | ow d =>
    cases h1
    simp [sForS, freezes, freeze]
    rw [l1]
    simp [sSetN, freeze, look]
def fin (m : Nat) (rows : List (List Nat)) : List (List Nat) := rows.map fun r => r ++ [m + 1]
theorem listed_ok (m : Nat) (hm : m ≤ 50) (out : List (List Nat)) (h : run (fun r => longer r m) m [[0]] = some out) (hg : ∀ r ∈ fin m out, good r = true) : f_listed_u [.int (m : Int)] = .ok (.lst ((fin m out).map tN)) := by
  have lp := loop_map (fun (n : Nat) => D.int (n : Int)) (T := .nm 2)
    (body := (sSeq (sSetF 4 (eTop (eLst eNil)))
  (sSeq (sForS [1] (.nm 5) (eIter (eVar 1))
  (sExtI 4 (eCallF 2 f_longer_u (eCons (eVar 5) (eCons (eVar 0) eNil)))))
  (sSetN 1 4))))
    (fun r (_ : Unit) env => ∃ rows s1 lv s4 s5, r ≤ m ∧ run (fun r => longer r m) r rows = some out ∧ Rows (m - r + 1) rows ∧ s1.val = some (.lst (rows.map tN)) ∧ env = [.sh (.int (m : Int)), s1, lv, .un, s4, s5]) (fun _ _ => ()) (P := fun _ => True) (l := List.range m) (b := ())
    (env := [.sh (.int (m : Int)), .ow (.lst [tN [0]]), .un, .un, .un, .un]) (by
      rintro i r _ env _ ⟨rows, s1, lv, s4, s5, hr, hrun, hR, hs, rfl⟩
      unfold run at hrun
      split at hrun
      · rename_i hz
        obtain ⟨s5', st⟩ := listed_step m hm rows (m - (r + 1) + 1) (by omega) hR (Nat.le_of_ble_eq_true hz) s1 s4 s5 hs (.int (i : Int))
        refine ⟨[.sh (.int (m : Int)), s1, .sh (.int (i : Int)), .un, s4, s5], _, by simp, .inl st, _, _, _, _, _, by omega, hrun, ?_, rfl, rfl⟩
        have := rows_step (ext_longer m) hR
        rwa [show m - (r + 1) + 1 + 1 = m - r + 1 from by omega] at this
      · cases hrun) (fun _ _ => trivial) ⟨[[0]], _, _, _, _, by simp, by simpa using h, by rintro r hr; simp at hr; subst hr; simp, rfl, rfl⟩
  obtain ⟨e', l1, rows, s1, lv, s4, s5, _, h2, hR, hs, rfl⟩ := lp
  cases h2
  have hlen : out.length ≤ 1000000 := run_length (by simp) h
  refine runD_rt rfl ?_
  unfold g_listed_u
  have e0 : (D.tup [.int 0]) = tN [0] := rfl
  have c1 : eComp [5] (.nm 5) (eIter (eVar 1)) eYes (eOp addD (eVar 5) (eTup (eCons (eOp addD (eVar 0) (eC (.int 1))) eNil))) [.sh (.int (m : Int)), s1, lv, .un, s4, s5] = .ok (.lst ((fin m out).map tN)) := by
    unfold fin
    rw [List.map_map]
    refine eComp_yes (bs := out) _ tN ?_ (small_line hlen) fun r hr => ⟨_, by simp [wipeE]; rfl, ?_⟩
    · cases s1 <;> cases hs <;> simp
    · have := (hR r hr).2
      have ea : addD (tN r) (.tup [.int ((m : Int) + 1)]) = some (tN (r ++ [m + 1])) := add_tN (m := [m + 1]) (small_line (by simp; omega))
      simp [ea]
  have c2 : ∀ s, eComp [5] (.nm 5) (eIter (eVar 3)) (eB (eOp isD (eCallF 1 f_order_fault (eCons (eVar 5) eNil)) (eC .non))) (eVar 5) [.sh (.int (m : Int)), s1, lv, .ow (.lst ((fin m out).map tN)), s4, s] = .ok (.lst ((fin m out).map tN)) := fun s => by
    have := eComp_eq (vs := [5]) (T := .nm 5) (fi := eIter (eVar 3)) (c := eB (eOp isD (eCallF 1 f_order_fault (eCons (eVar 5) eNil)) (eC .non))) (f := eVar 5) (env := [.sh (.int (m : Int)), s1, lv, .ow (.lst ((fin m out).map tN)), s4, s]) (bs := fin m out) (fun _ => true) tN tN (by simp) (small_line (by simp [fin]; exact hlen)) fun r hr => ⟨_, by simp [wipeE]; rfl, by simp [good_ok r (hg r hr)], fun _ => by simp⟩
    rw [this]
    congr 3
    exact List.filter_eq_self.mpr fun _ _ => rfl
  simp [rngF1 (n := m) (lt62 (by omega)), e0]
  rw [show iN (List.range m) = (List.range m).map (fun (n : Nat) => D.int (n : Int)) from rfl, l1]
  simp [c1, c2]
end LW
set_option Elab.async false
set_option linter.all false
set_option maxRecDepth 100000
set_option maxHeartbeats 2000000
namespace LW
open PySem PySem.Spec PyProof.Rows L2 DL
def goes (row : List Nat) (l : Nat) : Bool := !row.contains l && (!Nat.beq (l % 2) (row.getLastD 0 % 2) && lfits row l)
def ways (row : List Nat) (m : Nat) : List (List Nat) := ((upto 1 (m + 1)).filter (goes row)).map fun l => row ++ [l]
theorem ext_ways (m : Nat) (row : List Nat) : ∀ r ∈ ways row m, ∃ l, r = row ++ [l] := fun r hr => by
  obtain ⟨l, _, rfl⟩ := List.mem_map.mp hr
  exact ⟨l, rfl⟩
theorem mod_ne (a b : Nat) : (((a : Int) % 2) != ((b : Int) % 2)) = !Nat.beq (a % 2) (b % 2) := by
  cases q : Nat.beq (a % 2) (b % 2) with
  | true => have := Nat.beq_eq.mp q; simp only [bne, Bool.not_true, Bool.not_eq_false']; rw [beq_iff_eq]; omega
  | false => have : ¬ a % 2 = b % 2 := fun c => by rw [Nat.beq_eq.mpr c] at q; cases q
             simp only [bne, Bool.not_false, Bool.not_eq_true']; rw [beq_eq_false_iff_ne]; omega
theorem all_step (m : Nat) (hm : m ≤ 50) (rows : List (List Nat)) (k : Nat) (hk : k ≤ 60) (hR : Rows k rows) (hl : (rows.flatMap fun r => ways r m).length ≤ 1000000) (s1 s3 s4 : Sl) (h1 : s1.val = some (.lst (rows.map tN))) (t : D) :
    ∃ s4', (sSeq (sSetF 3 (eTop (eLst eNil)))
  (sSeq (sForS [1] (.nm 4) (eIter (eVar 1))
  (sExtI 3 (eComp [5] (.nm 5) (eRange rangeF2 (eCons (eC (.int 1)) (eCons (eOp addD (eVar 0) (eC (.int 1))) eNil))) (eAndT (eB (eOp ninD (eVar 5) (eVar 4))) (eAndT (eB (eOp neD (eOp modD (eVar 5) (eC (.int 2))) (eOp modD (eOp idxD (eVar 4) (eNeg (eC (.int 1)))) (eC (.int 2))))) (eB (eCallF 2 f_law_fits_u (eCons (eVar 4) (eCons (eVar 5) eNil)))))) (eOp addD (eVar 4) (eTup (eCons (eVar 5) eNil))))))
  (sSetN 1 3))) [.sh (.int (m : Int)), s1, .sh t, s3, s4, .un] = .nx [.sh (.int (m : Int)), .sh (.lst ((rows.flatMap fun r => ways r m).map tN)), .sh t, .sh (.lst ((rows.flatMap fun r => ways r m).map tN)), s4', .un] := by
  have er : rangeF2 [.int 1, .int ((m : Int) + 1)] = some (iN (upto 1 (m + 1))) := by
    rw [show ((m : Int) + 1) = ((m + 1 : Nat) : Int) from by omega]; exact rngF2 (a := 1) (lt62 (by omega)) (lt62 (by omega))
  have lp := rows_loop (T := .nm 4) (body := sExtI 3 (eComp [5] (.nm 5) (eRange rangeF2 (eCons (eC (.int 1)) (eCons (eOp addD (eVar 0) (eC (.int 1))) eNil))) (eAndT (eB (eOp ninD (eVar 5) (eVar 4))) (eAndT (eB (eOp neD (eOp modD (eVar 5) (eC (.int 2))) (eOp modD (eOp idxD (eVar 4) (eNeg (eC (.int 1)))) (eC (.int 2))))) (eB (eCallF 2 f_law_fits_u (eCons (eVar 4) (eCons (eVar 5) eNil)))))) (eOp addD (eVar 4) (eTup (eCons (eVar 5) eNil))))) (ext := fun r => ways r m) (k := k)
    (fun acc env => ∃ s4, env = [.sh (.int (m : Int)), .sh (.lst (rows.map tN)), .sh t, .ow (.lst (acc.map tN)), s4, .un]) (by
      rintro row acc env q1 q2 hz ⟨s, rfl⟩
      have i1 := idx_last q1
      have g0 : row.getLastD 0 = row.getLast q1 := by rw [List.getLastD_eq_getLast?, List.getLast?_eq_some_getLast q1]; rfl
      rw [← g0] at i1
      have ec : eComp [5] (.nm 5) (eRange rangeF2 (eCons (eC (.int 1)) (eCons (eOp addD (eVar 0) (eC (.int 1))) eNil))) (eAndT (eB (eOp ninD (eVar 5) (eVar 4))) (eAndT (eB (eOp neD (eOp modD (eVar 5) (eC (.int 2))) (eOp modD (eOp idxD (eVar 4) (eNeg (eC (.int 1)))) (eC (.int 2))))) (eB (eCallF 2 f_law_fits_u (eCons (eVar 4) (eCons (eVar 5) eNil)))))) (eOp addD (eVar 4) (eTup (eCons (eVar 5) eNil)))
          [.sh (.int (m : Int)), .sh (.lst (rows.map tN)), .sh t, .ow (.lst (acc.map tN)), .sh (tN row), .un] = .ok (.lst ((ways row m).map tN)) := by
        unfold ways
        rw [List.map_map]
        refine eComp_eq (bs := upto 1 (m + 1)) _ _ (fun (n : Nat) => D.int (n : Int)) (by simp [er]; rfl) (small_line (by simp [upto]; omega)) fun l hl => ⟨_, by simp [wipeE]; rfl, ?_, fun _ => ?_⟩
        · unfold goes
          generalize row.getLastD 0 = q at i1 ⊢
          cases c1 : row.contains l with
          | true => have c1' : l ∈ row := by simpa using c1
                    simp [c1']
          | false => have c1' : l ∉ row := by simpa using c1
                     simp only [Bool.not_false, Bool.true_and]
                     have e := mod_ne l q
                     cases c2 : Nat.beq (l % 2) (q % 2) with
                     | true => rw [c2] at e; simp [c1', i1, e]
                     | false => rw [c2] at e; simp [c1', i1, e, lfits_ok row l q1 (by omega)]
        · have ea : addD (tN row) (.tup [.int (l : Int)]) = some (tN (row ++ [l])) := add_tN (m := [l]) (small_line (by simp; omega))
          simp [ea]
      refine ⟨_, _, by simp; rfl, by simp [onList, ec, extL_ok (show (acc.map tN).length + ((ways row m).map tN).length ≤ sizeLine from small_line (by simpa using hz))]; rfl, _, by simp; rfl⟩)
    (rows := rows) (acc := []) (env := [.sh (.int (m : Int)), .sh (.lst (rows.map tN)), .sh t, .ow (.lst []), s4, .un]) hR (by simpa using hl) ⟨_, rfl⟩
  obtain ⟨e', l1, s5', rfl⟩ := lp
  refine ⟨s5', ?_⟩
  cases s1 with
  | un => cases h1
  | sh d =>
    cases h1
    simp [sForS, freezes, freeze]
    rw [l1]
    simp [sSetN, freeze, look]
  | ow d =>
    cases h1
    simp [sForS, freezes, freeze]
    rw [l1]
    simp [sSetN, freeze, look]
def finAll (m : Nat) (rows : List (List Nat)) : List (List Nat) := (rows.filter fun r => !Nat.beq ((m + 1) % 2) (r.getLastD 0 % 2) && lfits r (m + 1)).map fun r => r ++ [m + 1]
theorem all_is (m : Nat) (hm : m ≤ 50) (out : List (List Nat)) (h : run (fun r => ways r m) m [[0]] = some out) : f_law_all_u [.int (m : Int)] = .ok (.lst ((finAll m out).map tN)) := by
  have lp := loop_map (fun (n : Nat) => D.int (n : Int)) (T := .nm 2)
    (body := (sSeq (sSetF 3 (eTop (eLst eNil)))
  (sSeq (sForS [1] (.nm 4) (eIter (eVar 1))
  (sExtI 3 (eComp [5] (.nm 5) (eRange rangeF2 (eCons (eC (.int 1)) (eCons (eOp addD (eVar 0) (eC (.int 1))) eNil))) (eAndT (eB (eOp ninD (eVar 5) (eVar 4))) (eAndT (eB (eOp neD (eOp modD (eVar 5) (eC (.int 2))) (eOp modD (eOp idxD (eVar 4) (eNeg (eC (.int 1)))) (eC (.int 2))))) (eB (eCallF 2 f_law_fits_u (eCons (eVar 4) (eCons (eVar 5) eNil)))))) (eOp addD (eVar 4) (eTup (eCons (eVar 5) eNil))))))
  (sSetN 1 3))))
    (fun r (_ : Unit) env => ∃ rows s1 lv s3 s4, r ≤ m ∧ run (fun r => ways r m) r rows = some out ∧ Rows (m - r + 1) rows ∧ s1.val = some (.lst (rows.map tN)) ∧ env = [.sh (.int (m : Int)), s1, lv, s3, s4, .un]) (fun _ _ => ()) (P := fun _ => True) (l := List.range m) (b := ())
    (env := [.sh (.int (m : Int)), .ow (.lst [tN [0]]), .un, .un, .un, .un]) (by
      rintro i r _ env _ ⟨rows, s1, lv, s3, s4, hr, hrun, hR, hs, rfl⟩
      unfold run at hrun
      split at hrun
      · rename_i hz
        obtain ⟨s4', st⟩ := all_step m hm rows (m - (r + 1) + 1) (by omega) hR (Nat.le_of_ble_eq_true hz) s1 s3 s4 hs (.int (i : Int))
        refine ⟨[.sh (.int (m : Int)), s1, .sh (.int (i : Int)), s3, s4, .un], _, by simp, .inl st, _, _, _, _, _, by omega, hrun, ?_, rfl, rfl⟩
        have := rows_step (ext_ways m) hR
        rwa [show m - (r + 1) + 1 + 1 = m - r + 1 from by omega] at this
      · cases hrun) (fun _ _ => trivial) ⟨[[0]], _, _, _, _, by simp, by simpa using h, by rintro r hr; simp at hr; subst hr; simp, rfl, rfl⟩
  obtain ⟨e', l1, rows, s1, lv, s3, s4, _, h2, hR, hs, rfl⟩ := lp
  cases h2
  have hlen : out.length ≤ 1000000 := run_length (by simp) h
  refine runD_rt rfl ?_
  unfold g_law_all_u
  have e0 : (D.tup [.int 0]) = tN [0] := rfl
  have c1 : eComp [4] (.nm 4) (eIter (eVar 1)) (eAndT (eB (eOp neD (eOp modD (eOp addD (eVar 0) (eC (.int 1))) (eC (.int 2))) (eOp modD (eOp idxD (eVar 4) (eNeg (eC (.int 1)))) (eC (.int 2))))) (eB (eCallF 2 f_law_fits_u (eCons (eVar 4) (eCons (eOp addD (eVar 0) (eC (.int 1))) eNil))))) (eOp addD (eVar 4) (eTup (eCons (eOp addD (eVar 0) (eC (.int 1))) eNil))) [.sh (.int (m : Int)), s1, lv, s3, s4, .un] = .ok (.lst ((finAll m out).map tN)) := by
    unfold finAll
    rw [List.map_map]
    refine eComp_eq (bs := out) _ _ tN ?_ (small_line hlen) fun r hr => ⟨_, by simp [wipeE]; rfl, ?_, fun _ => ?_⟩
    · cases s1 <;> cases hs <;> simp
    · obtain ⟨q1, q2⟩ := hR r hr
      have i1 := idx_last q1
      have g0 : r.getLastD 0 = r.getLast q1 := by rw [List.getLastD_eq_getLast?, List.getLast?_eq_some_getLast q1]; rfl
      rw [← g0] at i1
      generalize r.getLastD 0 = q at i1 ⊢
      have e := mod_ne (m + 1) q
      rw [Int.natCast_add] at e
      have lf := lfits_ok r (m + 1) q1 (by omega)
      rw [Int.natCast_add] at lf
      cases c2 : Nat.beq ((m + 1) % 2) (q % 2) with
      | true => rw [c2] at e; simp [i1, show (((m : Int) + 1) % 2 != (q : Int) % 2) = false from e]
      | false => rw [c2] at e; simp [i1, show (((m : Int) + 1) % 2 != (q : Int) % 2) = true from e, show f_law_fits_u [tN r, .int ((m : Int) + 1)] = _ from lf]
    · have := (hR r hr).2
      have ea : addD (tN r) (.tup [.int ((m : Int) + 1)]) = some (tN (r ++ [m + 1])) := add_tN (m := [m + 1]) (small_line (by simp; omega))
      simp [ea]
  simp [rngF1 (n := m) (lt62 (by omega)), e0]
  rw [show iN (List.range m) = (List.range m).map (fun (n : Nat) => D.int (n : Int)) from rfl, l1]
  simp [c1]
end LW
set_option Elab.async false
set_option linter.all false
set_option maxRecDepth 100000
set_option maxHeartbeats 2000000
namespace DL
open PySem PySem.Spec PyProof.Rows L2
/-- what every law draws from its script -/
def gDraws : En → Fl := (sSeq (sSetF 2 (eTop (eLst eNil)))
  (sSeq (sSetI 3 (eC (.int 7)))
  (sSeq (sForF (.nm 4) (eIter (eTop (eSl (eVar 0) eNone (ePart (eC (.int 63))))))
  (sSeq (sSetI 6 (eCall absF (eCons (eVar 4) eNil)))
  (sSeq (sSetI 3 (eOp modD (eCall intF (eCons (eOp addD (eOp addD (eOp mulD (eVar 3) (eC (.int 48271))) (eVar 6)) (eC (.int 11))) eNil)) (eC (.int 2147483647))))
  (sIf (eB (eOp geD (eVar 6) (eOp powD (eC (.int 10)) (eC (.int 18))))) (sForF (.nm 5) (eRange rangeF1 (eCons (eC (.int 60)) eNil))
  (sIf (eB (eOp gtD (eVar 6) (eC (.int 0)))) (sSeq (sAppI 2 (eOp modD (eCall intF (eCons (eVar 6) eNil)) (eC (.int 1009))))
  (sSetI 6 (eOp fdivD (eVar 6) (eC (.int 1009))))) sNil)) (sAppI 2 (eOp modD (eOp fdivD (eCall intF (eCons (eOp addD (eOp mulD (eVar 3) (eC (.int 16807))) (eC (.int 5))) eNil)) (eC (.int 3))) (eC (.int 65521))))))))
  (sSeq (sForF (.nm 5) (eRange rangeF1 (eCons (eVar 1) eNil))
  (sIf (eB (eOp ltD (eCall lenF (eCons (eVar 2) eNil)) (eVar 1))) (sSeq (sSetI 3 (eOp modD (eCall intF (eCons (eOp addD (eOp addD (eOp mulD (eVar 3) (eC (.int 69621))) (eVar 5)) (eC (.int 1))) eNil)) (eC (.int 2147483647))))
  (sAppI 2 (eOp modD (eOp fdivD (eCall intF (eCons (eVar 3) eNil)) (eC (.int 7))) (eC (.int 65521))))) sNil))
  (sRet (eTop (eSl (eVar 2) eNone (ePart (eVar 1)))))))))
theorem mod_nat (x m : Int) (h : 0 < m) : ∃ k : Nat, x % m = (k : Int) := Int.eq_ofNat_of_zero_le (Int.emod_nonneg _ (by omega))
theorem abs_nat (i : Int) : absF [.int i] = some (.int (i.natAbs : Int)) := by
  show some (D.int (if i < 0 then -i else i)) = _
  congr 2; split <;> omega
theorem mul_lit (i : Int) {j : Int} (h1 : -(2 ^ 64) < j) (h2 : j < 2 ^ 64) : mulD (.int i) (.int j) = some (.int (i * j)) := by
  show (if fitMul i j = true then some (D.int (i * j)) else none) = _
  rw [if_pos]
  unfold fitMul
  rw [Bool.or_eq_true]
  right
  rw [Bool.and_eq_true]
  exact ⟨decide_eq_true h1, decide_eq_true h2⟩
theorem pow18 : powD (.int 10) (.int 18) = some (.int 1000000000000000000) := by
  show (if (0 : Int) ≤ 18 ∧ (18 : Int) ≤ 1000000 ∧ (10 : Int).natAbs < 2 ^ 64 then some (D.int (10 ^ (18 : Int).toNat)) else none) = _
  rw [if_pos (by decide)]
  rfl
@[simp] theorem fdiv_lit (i : Int) {j : Int} (h1 : 0 < j ∧ j < 1073741824) : fdivD (.int i) (.int j) = some (.int (i / j)) := by
  show (if 0 < j ∧ j < 1073741824 then some (D.int (i / j)) else none) = _
  rw [if_pos h1]
theorem iN_append (l : List Nat) (k : Nat) : iN l ++ [D.int (k : Int)] = iN (l ++ [k]) := by simp [iN]
@[simp] theorem iN_length (l : List Nat) : (iN l).length = l.length := by simp [iN]
@[simp] theorem immAll_iN (l : List Nat) : immAll (iN l) = true := by simp [iN, immAll_all]
theorem appL_nat {i : Nat} {l : List Nat} {k : Nat} {env : En} (h : l.length ≤ 100000) : appL i (iN l) (.int (k : Int)) env = .nx (env.set i (.ow (.lst (iN (l ++ [k]))))) := by
  unfold appL
  rw [if_pos (by rw [iN_length, sizeLine_val]; omega), iN_append]
theorem cut_take (xs : List D) (n : Nat) : DL.cutD xs none (some (n : Int)) = xs.take n := by
  unfold DL.cutD
  rw [HT.sIx_none, HT.sIx_nat, List.drop_zero, Nat.sub_zero]
  by_cases c : n ≤ xs.length
  · rw [Nat.min_eq_left c]
  · rw [Nat.min_eq_right (by omega), List.take_length, List.take_of_length_le (by omega)]
theorem draws_ok (ns : List Int) (many : Nat) (hm : many ≤ 1000) : ∃ ds : List Nat, ds.length = many ∧ runD 2 7 gDraws [.fz (ns.map .int), .int (many : Int)] = .ok (.lst (iN ds)) := by
  -- a great number's digits
  have in60 := fun (c : Sl) (scr : D) (seed : Nat) (n0 : Nat) (ds0 : List Nat) (k0 : Sl) (h0 : ds0.length ≤ 20000) => loop_map (fun (n : Nat) => D.int (n : Int)) (T := .nm 5)
    (body := (sIf (eB (eOp gtD (eVar 6) (eC (.int 0)))) (sSeq (sAppI 2 (eOp modD (eCall intF (eCons (eVar 6) eNil)) (eC (.int 1009))))
  (sSetI 6 (eOp fdivD (eVar 6) (eC (.int 1009))))) sNil))
    (fun r (_ : Unit) env => ∃ (ds : List Nat) (n : Nat) (k : Sl), ds.length + r ≤ ds0.length + 60 ∧ env = [.sh scr, .sh (.int (many : Int)), .ow (.lst (iN ds)), .ow (.int (seed : Int)), c, k, .ow (.int (n : Int))]) (fun _ _ => ()) (P := fun _ => True) (l := List.range 60) (b := ())
    (env := [.sh scr, .sh (.int (many : Int)), .ow (.lst (iN ds0)), .ow (.int (seed : Int)), c, k0, .ow (.int (n0 : Int))]) (by
      rintro i r _ env _ ⟨ds, n, k, hl, rfl⟩
      by_cases c : 0 < n
      · obtain ⟨a, ha⟩ := mod_nat (n : Int) 1009 (by decide)
        refine ⟨_, _, by simp; rfl, .inl (by simp [c, onList, ha, appL_nat (show ds.length ≤ 100000 by omega), fdiv_lit]; rfl), ds ++ [a], n / 1009, _, by simp; omega, rfl⟩
      · refine ⟨_, _, by simp; rfl, .inl (by simp [c]; rfl), ds, n, _, by omega, rfl⟩) (fun _ _ => trivial) ⟨ds0, n0, k0, by simp, rfl⟩
  -- the cells
  have cells := loop_map (fun (n : Int) => D.int n) (T := .nm 4)
    (body := (sSeq (sSetI 6 (eCall absF (eCons (eVar 4) eNil)))
  (sSeq (sSetI 3 (eOp modD (eCall intF (eCons (eOp addD (eOp addD (eOp mulD (eVar 3) (eC (.int 48271))) (eVar 6)) (eC (.int 11))) eNil)) (eC (.int 2147483647))))
  (sIf (eB (eOp geD (eVar 6) (eOp powD (eC (.int 10)) (eC (.int 18))))) (sForF (.nm 5) (eRange rangeF1 (eCons (eC (.int 60)) eNil))
  (sIf (eB (eOp gtD (eVar 6) (eC (.int 0)))) (sSeq (sAppI 2 (eOp modD (eCall intF (eCons (eVar 6) eNil)) (eC (.int 1009))))
  (sSetI 6 (eOp fdivD (eVar 6) (eC (.int 1009))))) sNil)) (sAppI 2 (eOp modD (eOp fdivD (eCall intF (eCons (eOp addD (eOp mulD (eVar 3) (eC (.int 16807))) (eC (.int 5))) eNil)) (eC (.int 3))) (eC (.int 65521))))))))
    (fun r (_ : Unit) env => ∃ (ds : List Nat) (seed : Nat) (c : Sl) (k : Sl) (n : Sl), ds.length + 60 * r ≤ 3780 ∧ env = [.sh (.fz (ns.map .int)), .sh (.int (many : Int)), .ow (.lst (iN ds)), .ow (.int (seed : Int)), c, k, n]) (fun _ _ => ()) (P := fun _ => True) (l := ns.take 63) (b := ())
    (env := [.sh (.fz (ns.map .int)), .sh (.int (many : Int)), .ow (.lst []), .ow (.int 7), .un, .un, .un]) (by
      rintro i r _ env _ ⟨ds, seed, c, k, n, hl, rfl⟩
      obtain ⟨s', hs'⟩ := mod_nat ((seed : Int) * 48271 + (i.natAbs : Int) + 11) 2147483647 (by decide)
      have m1 := mul_lit (seed : Int) (j := 48271) (by decide) (by decide)
      have m2 := mul_lit (s' : Int) (j := 16807) (by decide) (by decide)
      obtain ⟨a, ha⟩ := mod_nat (((s' : Int) * 16807 + 5) / 3) 65521 (by decide)
      generalize hn : i.natAbs = nn at hs'
      have hab := abs_nat i
      rw [hn] at hab
      by_cases c2 : (1000000000000000000 : Int) ≤ (nn : Int)
      · obtain ⟨e', l1, ds', n', k', hl', rfl⟩ := in60 (.sh (.int i)) (.fz (ns.map .int)) s' nn ds k (by omega)
        refine ⟨_, [.sh (.fz (ns.map .int)), .sh (.int (many : Int)), .ow (.lst (iN ds')), .ow (.int (s' : Int)), .sh (.int i), k', .ow (.int (n' : Int))], by simp; rfl, .inl ?_, ds', s', _, _, _, by omega, rfl⟩
        simp [hab, m1, hs', pow18, c2, show rangeF1 [.int 60] = some (iN (List.range 60)) from rngF1 (n := 60) (by decide)]
        exact l1
      · refine ⟨_, [.sh (.fz (ns.map .int)), .sh (.int (many : Int)), .ow (.lst (iN (ds ++ [a]))), .ow (.int (s' : Int)), .sh (.int i), k, .ow (.int (nn : Int))], by simp; rfl, .inl ?_, ds ++ [a], s', _, _, _, by simp; omega, rfl⟩
        simp [hab, m1, hs', pow18, c2, m2, onList, fdiv_lit, ha, appL_nat (show ds.length ≤ 100000 by omega)]) (fun _ _ => trivial) ⟨[], 7, _, _, _, by simp; omega, rfl⟩
  obtain ⟨e1, l1, ds, seed, c, k, n, hl, rfl⟩ := cells
  -- up to many
  have fill := loop_map (fun (n : Nat) => D.int (n : Int)) (T := .nm 5)
    (body := (sIf (eB (eOp ltD (eCall lenF (eCons (eVar 2) eNil)) (eVar 1))) (sSeq (sSetI 3 (eOp modD (eCall intF (eCons (eOp addD (eOp addD (eOp mulD (eVar 3) (eC (.int 69621))) (eVar 5)) (eC (.int 1))) eNil)) (eC (.int 2147483647))))
  (sAppI 2 (eOp modD (eOp fdivD (eCall intF (eCons (eVar 3) eNil)) (eC (.int 7))) (eC (.int 65521))))) sNil))
    (fun r (_ : Unit) env => ∃ (ds : List Nat) (seed : Nat) (k : Sl), many ≤ ds.length + r ∧ ds.length + r ≤ 10000 ∧ env = [.sh (.fz (ns.map .int)), .sh (.int (many : Int)), .ow (.lst (iN ds)), .ow (.int (seed : Int)), c, k, n]) (fun _ _ => ()) (P := fun _ => True) (l := List.range many) (b := ())
    (env := [.sh (.fz (ns.map .int)), .sh (.int (many : Int)), .ow (.lst (iN ds)), .ow (.int (seed : Int)), c, k, n]) (by
      rintro i r _ env _ ⟨ds, seed, k, h1, h2, rfl⟩
      have m1 := mul_lit (seed : Int) (j := 69621) (by decide) (by decide)
      obtain ⟨s', hs'⟩ := mod_nat ((seed : Int) * 69621 + (i : Int) + 1) 2147483647 (by decide)
      obtain ⟨a, ha⟩ := mod_nat ((s' : Int) / 7) 65521 (by decide)
      by_cases c1 : ds.length < many
      · refine ⟨_, _, by simp; rfl, .inl (by simp [c1, m1, hs', onList, fdiv_lit, ha, appL_nat (show ds.length ≤ 100000 by omega)]; rfl), ds ++ [a], s', _, by simp; omega, by simp; omega, rfl⟩
      · refine ⟨_, _, by simp; rfl, .inl (by simp [c1]; rfl), ds, seed, _, by omega, by omega, rfl⟩) (fun _ _ => trivial) ⟨ds, seed, k, by simp, by simp; omega, rfl⟩
  obtain ⟨e2, l2, ds2, seed2, k2, h1, h2, rfl⟩ := fill
  refine ⟨ds2.take many, by rw [List.length_take]; omega, runD_rt rfl ?_⟩
  unfold gDraws
  have sl : sliceD (.fz (ns.map .int)) none (some 63) = some (.lst ((ns.take 63).map .int)) := by
    show some (D.lst (DL.cutD _ none (some ((63 : Nat) : Int)))) = _
    rw [cut_take, List.map_take]
  have sl2 : sliceD (.lst (iN ds2)) none (some (many : Int)) = some (.lst (iN (ds2.take many))) := by
    show some (D.lst (DL.cutD _ none (some (many : Int)))) = _
    rw [cut_take]; simp [iN, List.map_take]
  have im : immAll ((ns.take 63).map D.int) = true := by
    rw [immAll_all, List.all_eq_true]
    intro d hd
    obtain ⟨i, _, rfl⟩ := List.mem_map.mp hd
    simp
  change sliceD (.fz (ns.map .int)) none (some 63) = some (.lst ((ns.take 63).map fun n => D.int n)) at sl
  change immAll ((ns.take 63).map fun n => D.int n) = true at im
  generalize ((ns.take 63).map fun n => D.int n) = cs at l1 sl im
  have hr : rangeF1 [.int (many : Int)] = some (iN (List.range many)) := rngF1 (lt62 (by omega))
  rw [sSeq_nx (e := [.sh (.fz (ns.map .int)), .sh (.int (many : Int)), .ow (.lst []), .un, .un, .un, .un]) (by simp),
    sSeq_nx (e := [.sh (.fz (ns.map .int)), .sh (.int (many : Int)), .ow (.lst []), .ow (.int 7), .un, .un, .un]) (by simp),
    sSeq_nx (e := [.sh (.fz (ns.map .int)), .sh (.int (many : Int)), .ow (.lst (iN ds)), .ow (.int (seed : Int)), c, k, n]) (by simp [sl, im]; exact l1),
    sSeq_nx (e := [.sh (.fz (ns.map .int)), .sh (.int (many : Int)), .ow (.lst (iN ds2)), .ow (.int (seed2 : Int)), c, k2, n]) (by simp [hr]; exact l2)]
  simp [sl2]
end DL
set_option Elab.async false
set_option linter.all false
set_option maxRecDepth 100000
set_option maxHeartbeats 2000000
namespace LW
open PySem PySem.Spec PyProof.Rows L2 DL
/-! ### tuples in order -/
def lexN : List Nat → List Nat → Bool
  | [], _ => true
  | _ :: _, [] => false
  | a :: l, b :: m => if Nat.blt a b = true then true else if Nat.blt b a = true then false else lexN l m
theorem toPy_tN (l : List Nat) : toPy (tN l) = .tuple ((l.map fun (n : Nat) => (n : Int)).map .int) := by
  simp only [tN, toPy, toPyAll_map', List.map_map]
  congr 1
theorem lexN_lt : ∀ (a b : List Nat), lexN a b = !decide ((b.map fun (n : Nat) => (n : Int)) < (a.map fun (n : Nat) => (n : Int)))
  | [], b => by simp [lexN]
  | _ :: _, [] => by simp [lexN]
  | a :: l, b :: m => by
    have ih := lexN_lt l m
    simp only [lexN, List.map_cons, List.cons_lt_cons_iff]
    rcases Nat.lt_trichotomy a b with h | h | h
    · have h1 : Nat.blt a b = true := Nat.blt_eq.mpr h
      rw [if_pos h1]
      have : ¬ ((b : Int) < (a : Int) ∨ (b : Int) = (a : Int) ∧ (m.map fun (n : Nat) => (n : Int)) < (l.map fun (n : Nat) => (n : Int))) := by
        rintro (z | ⟨z, _⟩) <;> omega
      rw [decide_eq_false this]; rfl
    · subst h
      have h1 : ¬ Nat.blt a a = true := fun z => absurd (Nat.blt_eq.mp z) (Nat.lt_irrefl _)
      rw [if_neg h1, if_neg h1, ih]
      congr 1
      apply decide_eq_decide.mpr
      simp
    · have h1 : ¬ Nat.blt a b = true := fun z => by have := Nat.blt_eq.mp z; omega
      have h2 : Nat.blt b a = true := Nat.blt_eq.mpr h
      rw [if_neg h1, if_pos h2]
      have : ((b : Int) < (a : Int) ∨ (b : Int) = (a : Int) ∧ (m.map fun (n : Nat) => (n : Int)) < (l.map fun (n : Nat) => (n : Int))) := by
        left; omega
      rw [decide_eq_true this]; rfl
theorem leS_tN (a b : List Nat) : leS (tN a) (tN b) = lexN a b := by
  rw [lexN_lt]
  unfold leS
  rw [toPy_tN, toPy_tN, PySem.W.dataLt_tuple]
  congr 1
  exact PySem.W.dataLt_ints _ _
theorem insD_map (a : List Nat) : ∀ (l : List (List Nat)), insD leS (tN a) (l.map tN) = (insD lexN a l).map tN
  | [] => rfl
  | b :: l => by
    simp only [List.map_cons, insD, leS_tN]
    split
    · rfl
    · rw [insD_map a l]; rfl
theorem isort_map : ∀ (l : List (List Nat)), isort leS (l.map tN) = (isort lexN l).map tN
  | [] => rfl
  | a :: l => by
    simp only [List.map_cons, isort]
    rw [isort_map l, insD_map]
theorem sort_rows (l : List (List Nat)) (h : ∀ r ∈ l, r ≠ []) : sortF [.lst (l.map tN)] = some (.lst ((isort lexN l).map tN)) := by
  have ok : sortOk (l.map tN) = true := by
    simp only [sortOk, Bool.and_eq_true]
    refine ⟨⟨⟨?_, ?_⟩, ?_⟩, ?_⟩
    · simp [plainAll_all, plain_tN]
    · simp only [sorty, Bool.or_eq_true]
      left
      rw [List.all_eq_true]
      intro d hd
      obtain ⟨r, hr, rfl⟩ := List.mem_map.mp hd
      rw [toPy_tN]
      cases r with
      | nil => exact absurd rfl (h _ hr)
      | cons x r => rfl
    · rw [List.all_eq_true]
      intro d hd
      obtain ⟨r, _, rfl⟩ := List.mem_map.mp hd
      rw [List.all_eq_true]
      intro e he
      obtain ⟨r', _, rfl⟩ := List.mem_map.mp he
      rw [toPy_tN, toPy_tN, PySem.W.alike]
      exact PySem.W.alike_ints _ _
    · rw [List.all_eq_true]
      intro d hd
      obtain ⟨r, _, rfl⟩ := List.mem_map.mp hd
      have := depth_tN r
      rw [decide_eq_true_eq]; omega
  show (if sortOk (l.map tN) = true then some (D.lst (isort leS (l.map tN))) else none) = _
  rw [if_pos ok, isort_map]
/-! ### what is reckoned out -/
def rowsOf (m : Nat) : List (List Nat) := match run (fun r => longer r m) m [[0]] with
  | some out => fin m out
  | none => []
def chkC (m n : Nat) : Bool := match run (fun r => longer r m) m [[0]] with
  | some out => Nat.beq out.length n && (fin m out).all good
  | none => false
def chkB (m : Nat) : Bool := match run (fun r => longer r m) m [[0]], run (fun r => ways r m) m [[0]] with
  | some out, some out2 => decide (finAll m out2 = fin m out) && decide (isort lexN ((fin m out).map turn) = fin m out)
  | _, _ => false
theorem chkC_ok {m n : Nat} (hm : m ≤ 50) (h : chkC m n = true) : f_listed_u [.int (m : Int)] = .ok (.lst ((rowsOf m).map tN)) ∧ (rowsOf m).length = n ∧ ∀ r ∈ rowsOf m, good r = true := by
  unfold chkC at h
  unfold rowsOf
  cases q : run (fun r => longer r m) m [[0]] with
  | none => rw [q] at h; cases h
  | some out =>
    rw [q] at h
    simp only [Bool.and_eq_true, Nat.beq_eq, List.all_eq_true] at h
    exact ⟨listed_ok m hm out q h.2, by simpa [fin] using h.1, h.2⟩
theorem chkB_ok {m : Nat} (hm : m ≤ 50) (h : chkB m = true) : f_law_all_u [.int (m : Int)] = .ok (.lst ((rowsOf m).map tN)) ∧ isort lexN ((rowsOf m).map turn) = rowsOf m := by
  unfold chkB at h
  unfold rowsOf
  cases q : run (fun r => longer r m) m [[0]] with
  | none => rw [q] at h; cases h
  | some out =>
    cases q2 : run (fun r => ways r m) m [[0]] with
    | none => rw [q, q2] at h; cases h
    | some out2 =>
      rw [q, q2] at h
      simp only [Bool.and_eq_true, decide_eq_true_eq] at h
      refine ⟨?_, h.2⟩
      rw [all_is m hm out2 q2, h.1]
/-! ### the calls -/
theorem labs_ok {m : Nat} {rows : List (List Nat)} (hm : m ≤ 9) (h : f_listed_u [.int (m : Int)] = .ok (.lst (rows.map tN))) : f_labyrinths [.int (m : Int)] = .ok (.lst (rows.map tN)) := by
  refine runD_rt rfl ?_
  unfold g_labyrinths
  simp [check_yes (m : Int) 9 (by omega) (by omega), h]
theorem count_ok {m : Nat} {rows : List (List Nat)} (hm : m ≤ 12) (h : f_listed_u [.int (m : Int)] = .ok (.lst (rows.map tN))) : f_count_labyrinths [.int (m : Int)] = .ok (.int (rows.length : Int)) := by
  refine runD_rt rfl ?_
  unfold g_count_labyrinths
  simp [check_yes (m : Int) 12 (by omega) (by omega), h]
theorem lab_ok {m k : Nat} {rows : List (List Nat)} (hm : m ≤ 9) (h : f_listed_u [.int (m : Int)] = .ok (.lst (rows.map tN))) {r : List Nat} (hk : rows[k]? = some r) : f_labyrinth [.int (m : Int), .int (k : Int)] = .ok (tN r) := by
  have hlt : k < rows.length := (List.getElem?_eq_some_iff.mp hk).1
  refine runD_rt rfl ?_
  unfold g_labyrinth
  have ix : idxD (.lst (rows.map tN)) (.int (k : Int)) = some (tN r) := idx_lst (by rw [List.getElem?_map, hk]; rfl)
  have w := is_whole_int (k : Int) 0 ((rows.length : Int) - 1)
  rw [decide_eq_true (show (0 : Int) ≤ (k : Int) by omega), decide_eq_true (show (k : Int) ≤ (rows.length : Int) - 1 by omega)] at w
  simp [check_yes (m : Int) 9 (by omega) (by omega), h, w, ix]
theorem lab_no {m : Nat} {d : D} {rows : List (List Nat)} (hm : m ≤ 9) (h : f_listed_u [.int (m : Int)] = .ok (.lst (rows.map tN))) (hw : f_is_whole [d, .int 0, .int ((rows.length : Int) - 1)] = .ok (.bl false)) : f_labyrinth [.int (m : Int), d] = .ex "BadLevels" := by
  refine runD_ex (e := [.sh (.int (m : Int)), .sh d, .ow (.lst (rows.map tN))]) rfl ?_
  unfold g_labyrinth
  simp [check_yes (m : Int) 9 (by omega) (by omega), h, hw]
theorem labs_no {d : D} (h : f_is_whole [d, .int 0, .int 9] = .ok (.bl false)) : f_labyrinths [d] = .ex "BadLevels" := by
  refine runD_ex (e := [.sh d]) rfl ?_
  unfold g_labyrinths
  simp [check_no d 9 h]
theorem count_no {d : D} (h : f_is_whole [d, .int 0, .int 12] = .ok (.bl false)) : f_count_labyrinths [d] = .ex "BadLevels" := by
  refine runD_ex (e := [.sh d]) rfl ?_
  unfold g_count_labyrinths
  simp [check_no d 12 h]
theorem lab_no1 {d e : D} (h : f_is_whole [d, .int 0, .int 9] = .ok (.bl false)) : f_labyrinth [d, e] = .ex "BadLevels" := by
  refine runD_ex (e := [.sh d, .sh e, .un]) rfl ?_
  unfold g_labyrinth
  simp [check_no d 9 h]
theorem lookBad : List.lookup (Str.ofString "BadLevels") [((Str.ofString "BadLevels"), true)] = some true := by simp [List.lookup]
theorem ref0 {d e : D} (h : f_labyrinths [d] = .ex "BadLevels") : f_law_refused_u [.int 0, d, e] = .ok (.bl true) := by
  refine runD_rt rfl ?_
  unfold g_law_refused_u
  simp [sTry, h, lookBad]
theorem ref1 {d e : D} (h : f_count_labyrinths [d] = .ex "BadLevels") : f_law_refused_u [.int 1, d, e] = .ok (.bl true) := by
  refine runD_rt rfl ?_
  unfold g_law_refused_u
  simp [sTry, h, lookBad]
theorem ref2 {d e : D} (h : f_labyrinth [d, e] = .ex "BadLevels") : f_law_refused_u [.int 2, d, e] = .ok (.bl true) := by
  refine runD_rt rfl ?_
  unfold g_law_refused_u
  simp [sTry, h, lookBad]
end LW
set_option Elab.async false
set_option linter.all false
set_option maxRecDepth 100000
set_option maxHeartbeats 2000000
namespace LW
open PySem PySem.Spec PyProof.Rows L2 DL
/-! ### the same, quicker -/
def inX (p q u : Nat) : Bool := (Nat.blt p u && Nat.blt u q) || (Nat.blt q u && Nat.blt u p)
theorem inX_eq (p q u : Nat) : (Nat.blt (min p q) u && Nat.blt u (max p q)) = inX p q u := by
  have b : ∀ x y : Nat, Nat.blt x y = decide (x < y) := fun x y => by
    cases h : Nat.blt x y with
    | true => exact (decide_eq_true (Nat.blt_eq.mp h)).symm
    | false => exact (decide_eq_false fun c => by rw [Nat.blt_eq.mpr c] at h; cases h).symm
  unfold inX
  simp only [b]
  rw [Bool.eq_iff_iff]
  simp only [Bool.and_eq_true, Bool.or_eq_true, decide_eq_true_eq]
  omega
def goX (u v : Nat) : List Nat → Bool
  | p :: q :: r => (inX p q u != inX p q v) || goX u v r
  | _ => false
theorem crosses_eq (xs : List Nat) (a b : Nat) : crosses xs a b = (inX (xs.getD a 0) (xs.getD (a + 1) 0) (xs.getD b 0) != inX (xs.getD a 0) (xs.getD (a + 1) 0) (xs.getD (b + 1) 0)) := by
  unfold crosses
  simp only [inX_eq]
theorem drop2 (xs : List Nat) (a : Nat) (h : a + 1 < xs.length) : xs.drop a = xs.getD a 0 :: xs.getD (a + 1) 0 :: xs.drop (a + 2) := by
  rw [List.drop_eq_getElem_cons (show a < xs.length by omega), List.drop_eq_getElem_cons h]
  simp [List.getD_eq_getElem?_getD, h, (show a < xs.length by omega)]
theorem goX_any (xs : List Nat) (u v : Nat) : ∀ (t a : Nat), a + 2 * t + 1 = xs.length → (((List.range t).map fun k => a + k * 2).any fun s => inX (xs.getD s 0) (xs.getD (s + 1) 0) u != inX (xs.getD s 0) (xs.getD (s + 1) 0) v) = goX u v (xs.drop a)
  | 0, a, h => by
    have : xs.drop a = [xs.getD a 0] := by
      rw [List.drop_eq_getElem_cons (show a < xs.length by omega), List.drop_eq_nil_of_le (by omega)]
      simp [List.getD_eq_getElem?_getD, (show a < xs.length by omega)]
    rw [this]; rfl
  | t + 1, a, h => by
    have ih := goX_any xs u v t (a + 2) (by omega)
    rw [drop2 xs a (by omega)]
    unfold goX
    rw [← ih, List.range_succ_eq_map, List.map_cons, List.any_cons, List.map_map]
    have e : (List.range t).map ((fun k => a + k * 2) ∘ Nat.succ) = (List.range t).map fun k => a + 2 + k * 2 := by
      refine List.map_congr_left fun k _ => ?_
      show a + (k + 1) * 2 = a + 2 + k * 2
      omega
    rw [e]
    simp
def fitsF (row : List Nat) (l : Nat) : Bool := !row.contains l && (Nat.beq ((l + row.getLastD 0) % 2) 1 && !goX (row.getLastD 0) l (row.drop ((row.length - 1) % 2)))
theorem getD_app_lt (row : List Nat) (l s : Nat) (h : s < row.length) : (row ++ [l]).getD s 0 = row.getD s 0 := by
  simp [List.getD_eq_getElem?_getD, List.getElem?_append_left h]
theorem fits_eq (row : List Nat) (l : Nat) (h0 : row ≠ []) : fits row l = fitsF row l := by
  unfold fits fitsF
  congr 2
  congr 1
  have hpos := List.length_pos_iff.mpr h0
  have hlast : (row ++ [l]).getD (row.length - 1) 0 = row.getLastD 0 := by
    rw [getD_app_lt _ _ _ (by omega), List.getLastD_eq_getLast?, List.getLast?_eq_getElem?, List.getD_eq_getElem?_getD]
  have hl : (row ++ [l]).getD (row.length - 1 + 1) 0 = l := by
    rw [show row.length - 1 + 1 = row.length by omega, List.getD_eq_getElem?_getD]; simp
  have e : ((by2 ((row.length - 1) % 2) (row.length - 1)).any fun s => crosses (row ++ [l]) s (row.length - 1)) = ((by2 ((row.length - 1) % 2) (row.length - 1)).any fun s => inX (row.getD s 0) (row.getD (s + 1) 0) (row.getLastD 0) != inX (row.getD s 0) (row.getD (s + 1) 0) l) := by
    rw [Bool.eq_iff_iff, List.any_eq_true, List.any_eq_true]
    constructor
    · rintro ⟨s, hs, h⟩
      have := mem_by2 hs
      refine ⟨s, hs, ?_⟩
      rwa [crosses_eq, hlast, hl, getD_app_lt _ _ _ (by omega), getD_app_lt _ _ _ (by omega)] at h
    · rintro ⟨s, hs, h⟩
      have := mem_by2 hs
      refine ⟨s, hs, ?_⟩
      rwa [crosses_eq, hlast, hl, getD_app_lt _ _ _ (by omega), getD_app_lt _ _ _ (by omega)]
  rw [e]
  have g := goX_any row (row.getLastD 0) l ((row.length - 1 - (row.length - 1) % 2 + 1) / 2) ((row.length - 1) % 2) (by omega)
  rw [← g]
  rfl
/-- no step of a later pair crosses this one -/
def goY (p q : Nat) : List Nat → Bool
  | u :: v :: r => (inX p q u != inX p q v) || goY p q r
  | _ => false
def apart : List Nat → Bool
  | p :: q :: r => !goY p q r && apart (q :: r)
  | _ => true
def odds : List Nat → Bool
  | p :: q :: r => Nat.beq ((p + q) % 2) 1 && odds (q :: r)
  | _ => true
def goodF (xs : List Nat) : Bool := form xs && (odds xs && apart xs)
theorem goY_false (xs : List Nat) (p q : Nat) : ∀ (n b : Nat), xs.length ≤ b + n → goY p q (xs.drop b) = false → ∀ k ∈ by2 b (xs.length - 1), (inX p q (xs.getD k 0) != inX p q (xs.getD (k + 1) 0)) = false
  | 0, b, h, _, k, hk => by have := mem_by2 hk; omega
  | n + 1, b, h, hg, k, hk => by
    have hb := mem_by2 hk
    by_cases hc : b + 1 < xs.length
    · rw [drop2 xs b hc] at hg
      unfold goY at hg
      rw [Bool.or_eq_false_iff] at hg
      by_cases e : k = b
      · subst e; exact hg.1
      · obtain ⟨j, hj, rfl⟩ := List.mem_map.mp hk
        rw [List.mem_range] at hj
        cases j with
        | zero => exact absurd (by simp) e
        | succ j =>
          cases n with
          | zero => omega
          | succ n =>
            refine goY_false xs p q n (b + 2) (by omega) hg.2 _ (List.mem_map.mpr ⟨j, List.mem_range.mpr (by omega), by omega⟩)
    · omega
theorem apart_ok (xs : List Nat) : ∀ (n a : Nat), xs.length ≤ a + n → apart (xs.drop a) = true → ∀ s, a ≤ s → s < xs.length - 1 → goY (xs.getD s 0) (xs.getD (s + 1) 0) (xs.drop (s + 2)) = false
  | 0, a, h, _, s, h1, h2 => by omega
  | n + 1, a, h, hp, s, h1, h2 => by
    rw [drop2 xs a (by omega)] at hp
    unfold apart at hp
    rw [Bool.and_eq_true, Bool.not_eq_true'] at hp
    by_cases e : s = a
    · subst e; exact hp.1
    · refine apart_ok xs n (a + 1) (by omega) ?_ s (by omega) h2
      have : xs.drop (a + 1) = xs.getD (a + 1) 0 :: xs.drop (a + 2) := by
        rw [List.drop_eq_getElem_cons (show a + 1 < xs.length by omega)]
        simp [List.getD_eq_getElem?_getD, (show a + 1 < xs.length by omega)]
      rw [this]; exact hp.2
theorem odds_ok (xs : List Nat) : ∀ (n a : Nat), xs.length ≤ a + n → odds (xs.drop a) = true → ∀ s, a ≤ s → s < xs.length - 1 → (xs.getD s 0 + xs.getD (s + 1) 0) % 2 = 1
  | 0, a, h, _, s, h1, h2 => by omega
  | n + 1, a, h, hp, s, h1, h2 => by
    rw [drop2 xs a (by omega)] at hp
    unfold odds at hp
    rw [Bool.and_eq_true, Nat.beq_eq] at hp
    by_cases e : s = a
    · subst e; exact hp.1
    · refine odds_ok xs n (a + 1) (by omega) ?_ s (by omega) h2
      have : xs.drop (a + 1) = xs.getD (a + 1) 0 :: xs.drop (a + 2) := by
        rw [List.drop_eq_getElem_cons (show a + 1 < xs.length by omega)]
        simp [List.getD_eq_getElem?_getD, (show a + 1 < xs.length by omega)]
      rw [this]; exact hp.2
theorem goodF_ok (xs : List Nat) (h : goodF xs = true) : good xs = true := by
  simp only [goodF, Bool.and_eq_true] at h
  simp only [good, Bool.and_eq_true, List.all_eq_true, List.mem_range, Nat.beq_eq, Bool.not_eq_true']
  refine ⟨h.1, fun s hs => odds_ok xs xs.length 0 (by omega) (by simpa using h.2.1) s (by omega) hs, fun a ha b hb => ?_⟩
  rw [crosses_eq]
  exact goY_false xs _ _ xs.length (a + 2) (by omega) (apart_ok xs xs.length 0 (by omega) (by simpa using h.2.2) a (by omega) ha) b hb
def longerF (row : List Nat) (m : Nat) : List (List Nat) := ((upto 1 (m + 1)).filter (fitsF row)).map fun l => row ++ [l]
theorem longer_eq (row : List Nat) (m : Nat) (h0 : row ≠ []) : longer row m = longerF row m := by
  unfold longer longerF
  congr 1
  exact List.filter_congr fun l _ => fits_eq row l h0
theorem flat_eq (m : Nat) : ∀ (rows : List (List Nat)), (∀ r ∈ rows, r ≠ []) → (rows.flatMap fun r => longer r m) = rows.flatMap fun r => longerF r m
  | [], _ => rfl
  | r :: rows, h => by
    rw [List.flatMap_cons, List.flatMap_cons, longer_eq r m (h r List.mem_cons_self), flat_eq m rows fun x hx => h x (List.mem_cons_of_mem _ hx)]
theorem run_eq (m : Nat) : ∀ (n : Nat) (rows : List (List Nat)), (∀ r ∈ rows, r ≠ []) → run (fun r => longer r m) n rows = run (fun r => longerF r m) n rows
  | 0, rows, _ => rfl
  | n + 1, rows, h => by
    unfold run
    rw [flat_eq m rows h]
    split
    · refine run_eq m n _ fun r hr => ?_
      obtain ⟨row, _, h2⟩ := List.mem_flatMap.mp hr
      obtain ⟨l, _, rfl⟩ := List.mem_map.mp h2
      simp
    · rfl
/-! ### rows from their end -/
def memF (l : Nat) : List Nat → Bool
  | [] => false
  | a :: r => cond (Nat.beq l a) true (memF l r)
def goR (u v : Nat) : List Nat → Bool
  | p :: q :: r => cond (inX p q u != inX p q v) true (goR u v r)
  | _ => false
def fitsR (r : List Nat) (l : Nat) : Bool := match r with
  | [] => false
  | u :: t => cond (Nat.beq (Nat.mod (Nat.add l u) 2) 1) (cond (memF l t) false (cond (Nat.beq l u) false (cond (goR u l t) false true))) false
def extR (r : List Nat) : List Nat → List (List Nat)
  | [] => []
  | l :: ls => cond (fitsR r l) ((l :: r) :: extR r ls) (extR r ls)
theorem nbeq (l a : Nat) : Nat.beq l a = (l == a) := by
  cases h : Nat.beq l a with
  | true => exact (beq_iff_eq.mpr (Nat.beq_eq.mp h)).symm
  | false => exact (beq_eq_false_iff_ne.mpr fun c => by rw [Nat.beq_eq.mpr c] at h; cases h).symm
theorem memF_eq (l : Nat) : ∀ r : List Nat, memF l r = r.contains l
  | [] => rfl
  | a :: r => by
    unfold memF
    rw [memF_eq l r, List.contains_cons]
    rw [nbeq]
    cases (l == a) <;> rfl
theorem goR_eq (u v : Nat) : ∀ r : List Nat, goR u v r = goX u v r
  | [] => rfl
  | [_] => rfl
  | p :: q :: r => by
    unfold goR goX
    rw [goR_eq u v r]
    cases (inX p q u != inX p q v) <;> rfl
theorem goX_iff (u v : Nat) : ∀ (zs : List Nat), goX u v zs = true ↔ ∃ k, 2 * k + 1 < zs.length ∧ (inX (zs.getD (2 * k) 0) (zs.getD (2 * k + 1) 0) u != inX (zs.getD (2 * k) 0) (zs.getD (2 * k + 1) 0) v) = true
  | [] => by simp [goX]
  | [_] => by simp [goX]
  | p :: q :: r => by
    unfold goX
    rw [Bool.or_eq_true, goX_iff u v r]
    constructor
    · rintro (h | ⟨k, h1, h2⟩)
      · exact ⟨0, by simp, by simpa using h⟩
      · refine ⟨k + 1, by simp; omega, ?_⟩
        rw [show 2 * (k + 1) = 2 * k + 1 + 1 by omega, show 2 * k + 1 + 1 + 1 = (2 * k + 1) + 1 + 1 by omega]
        simpa using h2
    · rintro ⟨k, h1, h2⟩
      cases k with
      | zero => exact .inl (by simpa using h2)
      | succ k =>
        refine .inr ⟨k, by simp at h1; omega, ?_⟩
        rw [show 2 * (k + 1) = 2 * k + 1 + 1 by omega, show 2 * k + 1 + 1 + 1 = (2 * k + 1) + 1 + 1 by omega] at h2
        simpa using h2
theorem inX_comm (p q u : Nat) : inX p q u = inX q p u := by unfold inX; rw [Bool.or_comm]
theorem getD_rev (row : List Nat) (j : Nat) (h : j < row.length) : row.reverse.getD j 0 = row.getD (row.length - 1 - j) 0 := by
  simp [List.getD_eq_getElem?_getD, List.getElem?_reverse h]
theorem go_rev (row : List Nat) (u v l : Nat) (t : List Nat) (h0 : row.reverse = u :: t) : goX u v (row.drop ((row.length - 1) % 2)) = goX u v t := by
  have hlen : row.length = t.length + 1 := by have := congrArg List.length h0; simpa using this
  have gt : ∀ j, j < t.length → t.getD j 0 = row.getD (row.length - 2 - j) 0 := fun j hj => by
    have := getD_rev row (j + 1) (by omega)
    rw [h0] at this
    rw [show row.length - 2 - j = row.length - 1 - (j + 1) by omega, ← this]
    simp
  have gd : ∀ j, j < (row.drop ((row.length - 1) % 2)).length → (row.drop ((row.length - 1) % 2)).getD j 0 = row.getD ((row.length - 1) % 2 + j) 0 := fun j hj => by
    simp [List.getD_eq_getElem?_getD]
  rw [Bool.eq_iff_iff, goX_iff, goX_iff]
  have hd : (row.drop ((row.length - 1) % 2)).length = row.length - (row.length - 1) % 2 := by simp
  constructor
  · rintro ⟨k, h1, h2⟩
    rw [hd] at h1
    rw [gd _ (by omega), gd _ (by omega)] at h2
    refine ⟨(row.length - 1) / 2 - 1 - k, by omega, ?_⟩
    rw [gt _ (by omega), gt _ (by omega), inX_comm, inX_comm _ _ v]
    rw [show row.length - 2 - (2 * ((row.length - 1) / 2 - 1 - k) + 1) = (row.length - 1) % 2 + 2 * k by omega, show row.length - 2 - 2 * ((row.length - 1) / 2 - 1 - k) = (row.length - 1) % 2 + (2 * k + 1) by omega]
    exact h2
  · rintro ⟨k, h1, h2⟩
    rw [gt _ (by omega), gt _ (by omega), inX_comm, inX_comm _ _ v] at h2
    refine ⟨(row.length - 1) / 2 - 1 - k, by omega, ?_⟩
    rw [gd _ (by omega), gd _ (by omega)]
    rw [show (row.length - 1) % 2 + 2 * ((row.length - 1) / 2 - 1 - k) = row.length - 2 - (2 * k + 1) by omega, show (row.length - 1) % 2 + (2 * ((row.length - 1) / 2 - 1 - k) + 1) = row.length - 2 - 2 * k by omega]
    exact h2
theorem fitsR_eq (row : List Nat) (l : Nat) (h0 : row ≠ []) : fitsF row l = fitsR row.reverse l := by
  obtain ⟨u, t, e⟩ : ∃ u t, row.reverse = u :: t := by
    cases h : row.reverse with
    | nil => exact absurd (List.reverse_eq_nil_iff.mp h) h0
    | cons u t => exact ⟨u, t, rfl⟩
  have hu : row.getLastD 0 = u := by
    have : row = (u :: t).reverse := by rw [← e, List.reverse_reverse]
    rw [this]; simp
  have hc : row.contains l = (u :: t).contains l := by
    rw [← e, Bool.eq_iff_iff]; simp
  unfold fitsF
  rw [hu, hc, go_rev row u l l t e, e, List.contains_cons]
  unfold fitsR
  simp only [memF_eq, goR_eq, nbeq l u]
  show (!((l == u) || t.contains l) && (Nat.beq ((l + u) % 2) 1 && !goX u l t)) = cond (Nat.beq ((l + u) % 2) 1) (cond (t.contains l) false (cond (l == u) false (cond (goX u l t) false true))) false
  cases Nat.beq ((l + u) % 2) 1 <;> cases (l == u) <;> cases t.contains l <;> cases goX u l t <;> rfl
theorem extR_eq (row : List Nat) (h0 : row ≠ []) : ∀ ls : List Nat, ((ls.filter (fitsF row)).map fun l => row ++ [l]) = (extR row.reverse ls).map List.reverse
  | [] => rfl
  | l :: ls => by
    have ih := extR_eq row h0 ls
    unfold extR
    rw [List.filter_cons, fitsR_eq row l h0]
    cases fitsR row.reverse l with
    | true => simp [ih]
    | false => simpa using ih
def runR (lv : List Nat) : Nat → List (List Nat) → Option (List (List Nat))
  | 0, rows => some rows
  | n + 1, rows => cond (Nat.ble (rows.flatMap fun r => extR r lv).length 1000000) (runR lv n (rows.flatMap fun r => extR r lv)) none
theorem flatR (m : Nat) : ∀ (rows : List (List Nat)), (∀ r ∈ rows, r ≠ []) → ((rows.map List.reverse).flatMap fun r => longer r m) = (rows.flatMap fun r => extR r (upto 1 (m + 1))).map List.reverse
  | [], _ => rfl
  | r :: rows, h => by
    have hr := h r List.mem_cons_self
    rw [List.map_cons, List.flatMap_cons, List.flatMap_cons, List.map_append, flatR m rows fun x hx => h x (List.mem_cons_of_mem _ hx)]
    congr 1
    have h0 : r.reverse ≠ [] := fun z => hr (List.reverse_eq_nil_iff.mp z)
    rw [longer_eq _ _ h0, longerF, extR_eq _ h0, List.reverse_reverse]
theorem extR_ne (r : List Nat) : ∀ (lv : List Nat), ∀ x ∈ extR r lv, x ≠ []
  | [], x, h => by simp [extR] at h
  | l :: lv, x, h => by
    unfold extR at h
    cases q : fitsR r l with
    | true =>
      rw [q] at h
      rcases List.mem_cons.mp h with rfl | h
      · simp
      · exact extR_ne r lv x h
    | false => rw [q] at h; exact extR_ne r lv x h
theorem runR_eq (m : Nat) : ∀ (n : Nat) (rows : List (List Nat)), (∀ r ∈ rows, r ≠ []) → run (fun r => longer r m) n (rows.map List.reverse) = (runR (upto 1 (m + 1)) n rows).map (List.map List.reverse)
  | 0, rows, _ => rfl
  | n + 1, rows, h => by
    unfold run runR
    rw [flatR m rows h, List.length_map]
    cases q : Nat.ble (rows.flatMap fun r => extR r (upto 1 (m + 1))).length 1000000 with
    | true =>
      rw [if_pos rfl]
      refine (runR_eq m n _ fun r hr => ?_)
      obtain ⟨row, _, h2⟩ := List.mem_flatMap.mp hr
      exact extR_ne _ _ _ h2
    | false => rw [if_neg Bool.false_ne_true]; rfl
def insN (a : Nat) : List Nat → List Nat
  | [] => [a]
  | b :: l => cond (Nat.ble a b) (a :: b :: l) (b :: insN a l)
def isortN : List Nat → List Nat
  | [] => []
  | a :: l => insN a (isortN l)
theorem insN_eq (a : Nat) : ∀ l : List Nat, insD Nat.ble a l = insN a l
  | [] => rfl
  | b :: l => by
    unfold insD insN
    rw [insN_eq a l]
    cases Nat.ble a b <;> rfl
theorem isortN_eq : ∀ l : List Nat, isort Nat.ble l = isortN l
  | [] => rfl
  | a :: l => by unfold isort isortN; rw [isortN_eq l, insN_eq]
def isRange (k : Nat) : List Nat → Bool
  | [] => true
  | a :: r => cond (Nat.beq a k) (isRange (Nat.succ k) r) false
theorem isRange_eq : ∀ (l : List Nat) (k : Nat), isRange k l = true → l = List.range' k l.length
  | [], _, _ => rfl
  | a :: r, k, h => by
    unfold isRange at h
    cases q : Nat.beq a k with
    | true =>
      rw [q] at h
      have := Nat.beq_eq.mp q
      subst this
      have ih := isRange_eq r (a + 1) h
      rw [List.length_cons, List.range'_succ, ← ih]
    | false => rw [q] at h; cases h
def leAll (k : Nat) : List Nat → Bool
  | [] => true
  | a :: r => cond (Nat.ble a k) (leAll k r) false
theorem leAll_eq (k : Nat) : ∀ l : List Nat, leAll k l = true → ∀ x ∈ l, x ≤ k
  | [], _, x, h => by simp at h
  | a :: r, h, x, hx => by
    unfold leAll at h
    cases q : Nat.ble a k with
    | true =>
      rw [q] at h
      rcases List.mem_cons.mp hx with rfl | hx
      · exact Nat.le_of_ble_eq_true q
      · exact leAll_eq k r h x hx
    | false => rw [q] at h; cases h
/-- xs: as many as n, the last told apart -/
def formF (n : Nat) (xs : List Nat) : Bool := cond (Nat.beq xs.length n) (cond (leAll (Nat.pred n) xs) (cond (isRange 0 (isortN xs)) (cond (Nat.beq (xs.getD 0 1) 0) (Nat.beq (xs.getLastD 0) (Nat.pred n)) false) false) false) false
theorem formF_ok {n : Nat} {xs : List Nat} (h2 : 2 ≤ n) (h14 : n ≤ 14) (h : formF n xs = true) : form xs = true := by
  unfold formF at h
  cases a : Nat.beq xs.length n <;> rw [a] at h <;> simp only [cond] at h <;> try cases h
  cases b : leAll (Nat.pred n) xs <;> rw [b] at h <;> simp only [] at h <;> try cases h
  cases c : isRange 0 (isortN xs) <;> rw [c] at h <;> simp only [] at h <;> try cases h
  cases d : Nat.beq (xs.getD 0 1) 0 <;> rw [d] at h <;> simp only [] at h <;> try cases h
  have hl := Nat.beq_eq.mp a
  subst hl
  simp only [form, Bool.and_eq_true, Nat.ble_eq, decide_eq_true_eq, List.all_eq_true]
  refine ⟨h2, h14, fun x hx => leAll_eq _ _ b x hx, ?_, d, h⟩
  have e := isRange_eq _ _ c
  rw [isortN_eq, e, ← isortN_eq, (isort_perm xs).length_eq, List.range_eq_range']
def goY2 (p q : Nat) : List Nat → Bool
  | u :: v :: r => cond (inX p q u != inX p q v) true (goY2 p q r)
  | _ => false
def apart2 : List Nat → Bool
  | p :: q :: r => cond (goY2 p q r) false (apart2 (q :: r))
  | _ => true
theorem goY2_eq (p q : Nat) : ∀ r : List Nat, goY2 p q r = goY p q r
  | [] => rfl
  | [_] => rfl
  | u :: v :: r => by
    unfold goY2 goY
    rw [goY2_eq p q r]
    cases (inX p q u != inX p q v) <;> rfl
theorem apart2_eq : ∀ r : List Nat, apart2 r = apart r
  | [] => rfl
  | [_] => rfl
  | p :: q :: r => by
    unfold apart2 apart
    rw [goY2_eq, apart2_eq (q :: r)]
    cases goY p q r <;> rfl
def goodN (n : Nat) (xs : List Nat) : Bool := cond (formF n xs) (cond (odds xs) (apart2 xs) false) false
theorem goodN_ok {n : Nat} {xs : List Nat} (h2 : 2 ≤ n) (h14 : n ≤ 14) (h : goodN n xs = true) : good xs = true := by
  unfold goodN at h
  rw [apart2_eq] at h
  cases a : formF n xs <;> rw [a] at h <;> simp only [cond] at h <;> try cases h
  cases b : odds xs <;> rw [b] at h <;> simp only [] at h <;> try cases h
  refine goodF_ok xs ?_
  unfold goodF
  rw [formF_ok h2 h14 a, b, h]; rfl
def allN (n m : Nat) : List (List Nat) → Bool
  | [] => true
  | r :: l => cond (goodN n ((m :: r).reverse)) (allN n m l) false
theorem allN_ok {n m : Nat} : ∀ {l : List (List Nat)}, allN n m l = true → ∀ r ∈ l, goodN n ((m :: r).reverse) = true
  | [], _, r, h => by simp at h
  | a :: l, h, r, hr => by
    unfold allN at h
    cases q : goodN n ((m :: a).reverse) with
    | true =>
      rw [q] at h
      rcases List.mem_cons.mp hr with rfl | hr
      · exact q
      · exact allN_ok h r hr
    | false => rw [q] at h; cases h
def chkR (m n : Nat) (lv : List Nat) : Bool := match runR lv m [[0]] with
  | some out => cond (Nat.beq out.length n) (allN (m + 2) (m + 1) out) false
  | none => false
theorem chkR_ok {m n : Nat} {lv : List Nat} (hm : m ≤ 12) (hl : upto 1 (m + 1) = lv) (h : chkR m n lv = true) : chkC m n = true := by
  subst hl
  unfold chkR at h
  unfold chkC
  have e := runR_eq m m [[0]] (by simp)
  rw [show [[0]].map List.reverse = [[0]] from rfl] at e
  rw [e]
  cases q : runR (upto 1 (m + 1)) m [[0]] with
  | none => rw [q] at h; cases h
  | some out =>
    rw [q] at h
    simp only at h
    cases z : Nat.beq out.length n with
    | false => rw [z] at h; cases h
    | true =>
      rw [z] at h
      simp only [Option.map_some, Bool.and_eq_true, Nat.beq_eq, List.all_eq_true]
      refine ⟨by simpa using Nat.beq_eq.mp z, fun r hr => ?_⟩
      unfold fin at hr
      obtain ⟨r', h1, rfl⟩ := List.mem_map.mp hr
      obtain ⟨r2, h2, rfl⟩ := List.mem_map.mp h1
      have := goodN_ok (by omega) (by omega) (allN_ok h r2 h2)
      simpa using this
end LW
set_option Elab.async false
set_option linter.all false
set_option maxRecDepth 100000
set_option maxHeartbeats 4000000
namespace LW
open PySem PySem.Spec PyProof.Rows L2 DL
abbrev lens : List D := [.int 1, .int 1, .int 1, .int 2, .int 3, .int 8, .int 14, .int 42, .int 81, .int 262]
/-- what is known of M levels: n labyrinths -/
structure Known (M n : Nat) (rows : List (List Nat)) : Prop where
  hM : M ≤ 9
  hA : f_law_all_u [.int (M : Int)] = .ok (.lst (rows.map tN))
  hF : f_listed_u [.int (M : Int)] = .ok (.lst (rows.map tN))
  hn : rows.length = n
  pos : 0 < n
  le : n ≤ 1000
  hT : idxD (.tup lens) (.int (M : Int)) = some (.int (n : Int))
  hG : ∀ r ∈ rows, good r = true
  hS : isort lexN (rows.map turn) = rows
theorem iN_get {ds : List Nat} {i : Nat} (h : i < ds.length) : idxD (.lst (iN ds)) (.int (i : Int)) = some (.int (ds.getD i 0 : Nat)) :=
  idx_lst (by simp [iN, List.getD_eq_getElem?_getD, h])
theorem turn_ne {r : List Nat} (h : good r = true) : turn r ≠ [] := by
  simp only [good, Bool.and_eq_true] at h
  have h1 := h.1
  simp only [form, Bool.and_eq_true, Nat.ble_eq] at h1
  intro z
  have := congrArg List.length z
  simp [turn] at this
  subst this
  simp at h1
def wrong (d : D) : Prop := f_is_whole [d, .int 0, .int 9] = .ok (.bl false) ∧ f_is_whole [d, .int 0, .int 12] = .ok (.bl false)
theorem all_true {l : List D} (n : Nat) (h : l = List.replicate n (.bl true)) : allF [.lst l] = some (.bl true) := by
  subst h
  have : List.replicate n (D.bl true) = (List.replicate n true).map D.bl := by simp
  show (blsD (List.replicate n (D.bl true))).map (fun bs => D.bl (bs.all fun b => b)) = _
  rw [this, bls_map]
  simp
theorem wrong_all (s0 s1 s2 s3 s4 s5 : Sl) (d : D) (h : wrong d) : eComp [8] (.nm 8) (eRange rangeF1 (eCons (eC (.int 3)) eNil)) eYes (eCallF 3 f_law_refused_u (eCons (eVar 8) (eCons (eVar 6) (eCons (eC (.int 0)) eNil)))) [s0, s1, s2, s3, s4, s5, .sh d, .un, .un] = .ok (.lst (List.replicate 3 (.bl true))) := by
  have e := eComp_yes (vs := [8]) (T := .nm 8) (fi := eRange rangeF1 (eCons (eC (.int 3)) eNil)) (f := eCallF 3 f_law_refused_u (eCons (eVar 8) (eCons (eVar 6) (eCons (eC (.int 0)) eNil)))) (env := [s0, s1, s2, s3, s4, s5, .sh d, .un, .un]) (bs := [(0 : Nat), 1, 2]) (fun _ => .bl true) (fun (n : Nat) => D.int (n : Int))
    (by simp [show rangeF1 [.int 3] = some (iN (List.range 3)) from rngF1 (n := 3) (by decide)]; rfl) (small_line (by simp)) fun k hk => ⟨_, by simp [wipeE]; rfl, by
      simp only [List.mem_cons, List.not_mem_nil, or_false] at hk
      rcases hk with rfl | rfl | rfl
      · simp; exact ref0 (labs_no h.1)
      · simp; exact ref1 (count_no h.2)
      · simp; exact ref2 (lab_no1 h.1)⟩
  exact e
theorem wrong_int {i : Int} (h : i < 0 ∨ 12 < i) : wrong (.int i) := by
  constructor <;> rw [is_whole_int] <;> congr 2 <;> rw [Bool.and_eq_false_iff] <;> simp <;> omega
theorem wrong_bl (b : Bool) : wrong (.bl b) := ⟨is_whole_bl _ _ _, is_whole_bl _ _ _⟩
theorem wrong_non : wrong .non := ⟨is_whole_non _ _, is_whole_non _ _⟩
theorem wrong_str (s : Str) : wrong (.str s) := ⟨is_whole_str _ _ _, is_whole_str _ _ _⟩
/-- the values that are refused -/
theorem wrong_loop (s0 s1 s2 s3 s4 s5 : Sl) : ∀ (l : List D) (s6 : Sl), (∀ d ∈ l, wrong d) → ∃ s6', loop (.nm 6) (sIf (eNotT (eB (eCall allF (eCons (eComp [8] (.nm 8) (eRange rangeF1 (eCons (eC (.int 3)) eNil)) eYes (eCallF 3 f_law_refused_u (eCons (eVar 8) (eCons (eVar 6) (eCons (eC (.int 0)) eNil))))) eNil)))) (sRet (eImm (eC (.bl false)))) sNil) l [s0, s1, s2, s3, s4, s5, s6, .un, .un] = .nx [s0, s1, s2, s3, s4, s5, s6', .un, .un]
  | [], s6, _ => ⟨s6, rfl⟩
  | d :: l, s6, h => by
    obtain ⟨s, ih⟩ := wrong_loop s0 s1 s2 s3 s4 s5 l (.sh d) fun x hx => h x (List.mem_cons_of_mem _ hx)
    refine ⟨s, ?_⟩
    have hp : put (.nm 6) d [s0, s1, s2, s3, s4, s5, s6, .un, .un] = some [s0, s1, s2, s3, s4, s5, .sh d, .un, .un] := by simp
    have hb : (sIf (eNotT (eB (eCall allF (eCons (eComp [8] (.nm 8) (eRange rangeF1 (eCons (eC (.int 3)) eNil)) eYes (eCallF 3 f_law_refused_u (eCons (eVar 8) (eCons (eVar 6) (eCons (eC (.int 0)) eNil))))) eNil)))) (sRet (eImm (eC (.bl false)))) sNil) [s0, s1, s2, s3, s4, s5, .sh d, .un, .un] = .nx [s0, s1, s2, s3, s4, s5, .sh d, .un, .un] := by
      have w := wrong_all s0 s1 s2 s3 s4 s5 d (h d List.mem_cons_self)
      have a := all_true (l := List.replicate 3 (D.bl true)) 3 rfl
      generalize List.replicate 3 (D.bl true) = ts at w a
      simp [w, a]
    rw [loop, hp]
    simp only
    rw [hb]
    exact ih
theorem law_core (ns : List Int) (ds : List Nat) (hl : ds.length = 10) (hd : f_law_draws_u [.fz (ns.map .int), .int 10] = .ok (.lst (iN ds)))
    (K : ∀ M, M ≤ 9 → ∃ n rows, Known M n rows) (c10 : f_count_labyrinths [.int 10] = .ok (.int 538)) (c11 : f_count_labyrinths [.int 11] = .ok (.int 1828)) : f_law [.fz (ns.map .int)] = .ok (.bl true) := by
  have g0 := iN_get (ds := ds) (i := 0) (by omega)
  have g1 := iN_get (ds := ds) (i := 1) (by omega)
  have g2 := iN_get (ds := ds) (i := 2) (by omega)
  have g3 := iN_get (ds := ds) (i := 3) (by omega)
  have g4 := iN_get (ds := ds) (i := 4) (by omega)
  have g5 := iN_get (ds := ds) (i := 5) (by omega)
  generalize ds.getD 0 0 = d0 at g0
  generalize ds.getD 1 0 = d1 at g1
  generalize ds.getD 2 0 = d2 at g2
  generalize ds.getD 3 0 = d3 at g3
  generalize ds.getD 4 0 = d4 at g4
  generalize ds.getD 5 0 = d5 at g5
  change idxD _ (.int 0) = _ at g0
  change idxD _ (.int 1) = _ at g1
  change idxD _ (.int 2) = _ at g2
  change idxD _ (.int 3) = _ at g3
  change idxD _ (.int 4) = _ at g4
  change idxD _ (.int 5) = _ at g5
  generalize hscr : D.fz (ns.map .int) = scr at hd ⊢
  generalize hdr : D.lst (iN ds) = dr at hd g0 g1 g2 g3 g4 g5
  refine runD_rt rfl ?_
  unfold g_law
  rw [sSeq_nx (e := [.sh scr, .ow dr, .un, .un, .un, .un, .un, .un, .un]) (by simp [hd])]
  rw [sSeq_nx (e := [.sh scr, .ow dr, .ow (.int ((d0 % 8 : Nat) : Int)), .un, .un, .un, .un, .un, .un]) (by simp [g0])]
  -- the number of levels
  obtain ⟨M, hM, e3⟩ : ∃ M : Nat, M ≤ 9 ∧ (sIf (eB (eOp eqD (eOp modD (eCall intF (eCons (eOp idxD (eVar 1) (eC (.int 1))) eNil)) (eC (.int 12))) (eC (.int 0)))) (sSetI 2 (eOp addD (eC (.int 8)) (eOp modD (eCall intF (eCons (eOp idxD (eVar 1) (eC (.int 2))) eNil)) (eC (.int 2))))) sNil)
      [.sh scr, .ow dr, .ow (.int ((d0 % 8 : Nat) : Int)), .un, .un, .un, .un, .un, .un] = .nx [.sh scr, .ow dr, .ow (.int (M : Int)), .un, .un, .un, .un, .un, .un] := by
    cases q : ((d1 : Int) % 12 == 0) with
    | true => exact ⟨8 + d2 % 2, by omega, by simp [g1, q, g2]⟩
    | false => exact ⟨d0 % 8, by omega, by simp [g1, q]⟩
  rw [sSeq_nx e3]
  clear e3
  obtain ⟨n, rows, k⟩ := K M hM
  obtain ⟨_, hA, hF, hn, pos, le, hT, hG, hS⟩ := k
  have hL := labs_ok hM hF
  have hC := count_ok (show M ≤ 12 by omega) hF
  rw [hn] at hC
  have hlen : lenF [.lst (rows.map tN)] = some (.int (n : Int)) := by rw [len_lst, List.length_map, hn]
  have hne : neD (.lst (rows.map tN)) (.lst (rows.map tN)) = some (.bl false) := by rw [neD_rows]; simp
  have hso : sortF [.lst ((rows.map turn).map tN)] = some (.lst (rows.map tN)) := by
    rw [sort_rows _ (fun r hr => by obtain ⟨r', h', rfl⟩ := List.mem_map.mp hr; exact turn_ne (hG r' h')), hS]
  rw [sSeq_nx (e := [.sh scr, .ow dr, .ow (.int (M : Int)), .ow (.lst (rows.map tN)), .un, .un, .un, .un, .un]) (by simp [hA])]
  rw [sSeq_nx (e := [.sh scr, .ow dr, .ow (.int (M : Int)), .ow (.lst (rows.map tN)), .ow (.lst (rows.map tN)), .un, .un, .un, .un]) (by simp [hL])]
  rw [sSeq_nx (e := [.sh scr, .ow dr, .ow (.int (M : Int)), .ow (.lst (rows.map tN)), .ow (.lst (rows.map tN)), .un, .un, .un, .un]) (by simp [hne, hC, hlen, hT])]
  have hmod : ((d3 : Int) % (n : Int)) = ((d3 % n : Nat) : Int) := by omega
  have hkn : d3 % n < n := Nat.mod_lt _ pos
  generalize d3 % n = kk at hmod hkn
  obtain ⟨r, hr⟩ : ∃ r, rows[kk]? = some r := ⟨rows[kk]'(by omega), List.getElem?_eq_getElem _⟩
  have hrm : r ∈ rows := List.mem_of_getElem? hr
  rw [sSeq_nx (e := [.sh scr, .ow dr, .ow (.int (M : Int)), .ow (.lst (rows.map tN)), .ow (.lst (rows.map tN)), .ow (.int (kk : Int)), .un, .un, .un]) (by simp [g3, hlen, hmod, pos])]
  have ix : idxD (.lst (rows.map tN)) (.int (kk : Int)) = some (tN r) := idx_lst (by rw [List.getElem?_map, hr]; rfl)
  rw [sSeq_nx (e := [.sh scr, .ow dr, .ow (.int (M : Int)), .ow (.lst (rows.map tN)), .ow (.lst (rows.map tN)), .ow (.int (kk : Int)), .un, .un, .un]) (by simp [lab_ok hM hF hr, ix, good_ok r (hG r hrm)])]
  have ec : eComp [7] (.nm 7) (eIter (eVar 4)) eYes (eCallF 1 f_turned_order (eCons (eVar 7) eNil)) [.sh scr, .ow dr, .ow (.int (M : Int)), .ow (.lst (rows.map tN)), .ow (.lst (rows.map tN)), .ow (.int (kk : Int)), .un, .un, .un] = .ok (.lst ((rows.map turn).map tN)) := by
    rw [List.map_map]
    exact eComp_yes (bs := rows) _ tN (by simp) (small_line (by omega)) fun r hr => ⟨_, by simp [wipeE]; rfl, by simp [turned_ok r (hG r hr)]⟩
  rw [sSeq_nx (e := [.sh scr, .ow dr, .ow (.int (M : Int)), .ow (.lst (rows.map tN)), .ow (.lst (rows.map tN)), .ow (.int (kk : Int)), .un, .un, .un]) (by
    generalize (rows.map turn).map tN = ts at ec hso
    simp [ec, hso, hne])]
  rw [sSeq_nx (e := [.sh scr, .ow dr, .ow (.int (M : Int)), .ow (.lst (rows.map tN)), .ow (.lst (rows.map tN)), .ow (.int (kk : Int)), .un, .un, .un]) (by
    cases q : ((d4 : Int) % 40 == 0) with
    | false => simp [g4, q]
    | true =>
      rcases (show (d5 : Int) % 2 = 0 ∨ (d5 : Int) % 2 = 1 by omega) with h5 | h5
      · simp [g4, q, g5, h5, c10, show idxD (.tup [.int 538, .int 1828]) (.int 0) = some (.int 538) from rfl]
      · simp [g4, q, g5, h5, c11, show idxD (.tup [.int 538, .int 1828]) (.int 1) = some (.int 1828) from rfl])]
  obtain ⟨s6, hw⟩ := wrong_loop (.sh scr) (.ow dr) (.ow (.int (M : Int))) (.ow (.lst (rows.map tN))) (.ow (.lst (rows.map tN))) (.ow (.int (kk : Int))) [.int (-1), .int 13, .bl true, .non, .str "1"] .un (by
    intro d hd
    simp only [List.mem_cons, List.not_mem_nil, or_false] at hd
    rcases hd with rfl | rfl | rfl | rfl | rfl
    · exact wrong_int (.inl (by decide))
    · exact wrong_int (.inr (by decide))
    · exact wrong_bl _
    · exact wrong_non
    · exact wrong_str _)
  rw [sSeq_nx (e := [.sh scr, .ow dr, .ow (.int (M : Int)), .ow (.lst (rows.map tN)), .ow (.lst (rows.map tN)), .ow (.int (kk : Int)), s6, .un, .un]) (by simp; exact hw)]
  have w10 : f_is_whole [.int 10, .int 0, .int 9] = .ok (.bl false) := by rw [is_whole_int]; rfl
  have r0 := ref0 (e := .int 0) (labs_no w10)
  have r2 := ref2 (lab_no1 (e := .int 0) w10)
  have el : eComp [6] (.nm 6) (eIter (eTup (eCons (eNeg (eC (.int 1))) (eCons (eCall lenF (eCons (eVar 3) eNil)) (eCons (eC (.bl true)) (eCons (eC .non) eNil)))))) eYes (eCallF 3 f_law_refused_u (eCons (eC (.int 2)) (eCons (eVar 2) (eCons (eVar 6) eNil))))
      [.sh scr, .ow dr, .ow (.int (M : Int)), .ow (.lst (rows.map tN)), .ow (.lst (rows.map tN)), .ow (.int (kk : Int)), s6, .un, .un] = .ok (.lst (List.replicate 4 (.bl true))) := by
    have := eComp_yes (vs := [6]) (T := .nm 6) (fi := eIter (eTup (eCons (eNeg (eC (.int 1))) (eCons (eCall lenF (eCons (eVar 3) eNil)) (eCons (eC (.bl true)) (eCons (eC .non) eNil)))))) (f := eCallF 3 f_law_refused_u (eCons (eC (.int 2)) (eCons (eVar 2) (eCons (eVar 6) eNil))))
      (env := [.sh scr, .ow dr, .ow (.int (M : Int)), .ow (.lst (rows.map tN)), .ow (.lst (rows.map tN)), .ow (.int (kk : Int)), s6, .un, .un]) (bs := [D.int (-1), .int (n : Int), .bl true, .non]) (fun _ => .bl true) id (by simp [hlen]) (small_line (by simp)) fun d hd => ⟨_, by simp [wipeE]; rfl, by
        have : f_is_whole [d, .int 0, .int ((rows.length : Int) - 1)] = .ok (.bl false) := by
          simp only [List.mem_cons, List.not_mem_nil, or_false] at hd
          rcases hd with rfl | rfl | rfl | rfl
          · rw [is_whole_int]; rfl
          · rw [is_whole_int, hn]
            have : ¬ (n : Int) ≤ (n : Int) - 1 := by omega
            rw [decide_eq_false this, Bool.and_false]
          · exact is_whole_bl _ _ _
          · exact is_whole_non _ _
        simp
        exact ref2 (lab_no hM hF this)⟩
    exact this
  have a := all_true (l := List.replicate 4 (D.bl true)) 4 rfl
  generalize List.replicate 4 (D.bl true) = ts at el a
  simp [r0, r2, el, a]
end LW
set_option Elab.async false
set_option linter.all false
set_option maxRecDepth 100000
set_option maxHeartbeats 4000000
namespace LW
open PySem PySem.Spec PyProof.Rows L2 DL
theorem dc0 : chkC 0 1 = true := chkR_ok (lv := []) (by decide) (by decide) (by decide +kernel)
theorem dc1 : chkC 1 1 = true := chkR_ok (lv := [1]) (by decide) (by decide) (by decide +kernel)
theorem dc2 : chkC 2 1 = true := chkR_ok (lv := [1, 2]) (by decide) (by decide) (by decide +kernel)
theorem dc3 : chkC 3 2 = true := chkR_ok (lv := [1, 2, 3]) (by decide) (by decide) (by decide +kernel)
theorem dc4 : chkC 4 3 = true := chkR_ok (lv := [1, 2, 3, 4]) (by decide) (by decide) (by decide +kernel)
theorem dc5 : chkC 5 8 = true := chkR_ok (lv := [1, 2, 3, 4, 5]) (by decide) (by decide) (by decide +kernel)
theorem dc6 : chkC 6 14 = true := chkR_ok (lv := [1, 2, 3, 4, 5, 6]) (by decide) (by decide) (by decide +kernel)
theorem dc7 : chkC 7 42 = true := chkR_ok (lv := [1, 2, 3, 4, 5, 6, 7]) (by decide) (by decide) (by decide +kernel)
theorem dc8 : chkC 8 81 = true := chkR_ok (lv := [1, 2, 3, 4, 5, 6, 7, 8]) (by decide) (by decide) (by decide +kernel)
theorem dc9 : chkC 9 262 = true := chkR_ok (lv := [1, 2, 3, 4, 5, 6, 7, 8, 9]) (by decide) (by decide) (by decide +kernel)
theorem dc10 : chkC 10 538 = true := chkR_ok (lv := [1, 2, 3, 4, 5, 6, 7, 8, 9, 10]) (by decide) (by decide) (by decide +kernel)
theorem dc11 : chkC 11 1828 = true := chkR_ok (lv := [1, 2, 3, 4, 5, 6, 7, 8, 9, 10, 11]) (by decide) (by decide) (by decide +kernel)
theorem db0 : chkB 0 = true := by decide +kernel
theorem db1 : chkB 1 = true := by decide +kernel
theorem db2 : chkB 2 = true := by decide +kernel
theorem db3 : chkB 3 = true := by decide +kernel
theorem db4 : chkB 4 = true := by decide +kernel
theorem db5 : chkB 5 = true := by decide +kernel
theorem db6 : chkB 6 = true := by decide +kernel
theorem db7 : chkB 7 = true := by decide +kernel
theorem db8 : chkB 8 = true := by decide +kernel
theorem db9 : chkB 9 = true := by decide +kernel
theorem known_mk {M n : Nat} (hM : M ≤ 9) (c : chkC M n = true) (b : chkB M = true) (pos : 0 < n) (le : n ≤ 1000) (hT : idxD (.tup lens) (.int (M : Int)) = some (.int (n : Int))) : ∃ n rows, Known M n rows := by
  obtain ⟨h1, h2, h3⟩ := chkC_ok (by omega) c
  obtain ⟨h4, h5⟩ := chkB_ok (by omega) b
  exact ⟨n, rowsOf M, hM, h4, h1, h2, pos, le, hT, h3, h5⟩
theorem known (M : Nat) (hM : M ≤ 9) : ∃ n rows, Known M n rows := by
  rcases (show M = 0 ∨ M = 1 ∨ M = 2 ∨ M = 3 ∨ M = 4 ∨ M = 5 ∨ M = 6 ∨ M = 7 ∨ M = 8 ∨ M = 9 by omega) with rfl | rfl | rfl | rfl | rfl | rfl | rfl | rfl | rfl | rfl
  · exact known_mk hM dc0 db0 (by decide) (by decide) rfl
  · exact known_mk hM dc1 db1 (by decide) (by decide) rfl
  · exact known_mk hM dc2 db2 (by decide) (by decide) rfl
  · exact known_mk hM dc3 db3 (by decide) (by decide) rfl
  · exact known_mk hM dc4 db4 (by decide) (by decide) rfl
  · exact known_mk hM dc5 db5 (by decide) (by decide) rfl
  · exact known_mk hM dc6 db6 (by decide) (by decide) rfl
  · exact known_mk hM dc7 db7 (by decide) (by decide) rfl
  · exact known_mk hM dc8 db8 (by decide) (by decide) rfl
  · exact known_mk hM dc9 db9 (by decide) (by decide) rfl
theorem count_is {m n : Nat} (hm : m ≤ 12) (c : chkC m n = true) : f_count_labyrinths [.int (m : Int)] = .ok (.int (n : Int)) := by
  obtain ⟨h1, h2, _⟩ := chkC_ok (by omega) c
  have := count_ok hm h1
  rwa [h2] at this
theorem law_true (ns : List Int) (_h : ns.length ≤ 63) : f_law [.fz (ns.map .int)] = .ok (.bl true) := by
  obtain ⟨ds, hl, hd⟩ := draws_ok ns 10 (by decide)
  exact law_core ns ds hl hd known (count_is (m := 10) (n := 538) (by decide) dc10) (count_is (m := 11) (n := 1828) (by decide) dc11)
end LW
set_option Elab.async false
set_option linter.all false
set_option maxRecDepth 100000
set_option maxHeartbeats 4000000

open PySem PySem.W PyProof.Rows in
set_option maxRecDepth 100000 in
set_option maxHeartbeats 0 in
theorem PySem.Challenge.cw_hedgeways_k69_whole_labyrinths_listed_holds : PySem.Challenge.rw_hedgeways_k69_whole_labyrinths_listed.Holds := by
  w_on; o_law; k_head; (case hw => w_witness2)
  k_fill
  refine DL.walk_D (l := PySem.Challenge.rw_hedgeways_k69_whole_labyrinths_listed) (k := 7) rfl rfl ⟨rfl, by decide, by decide⟩ (fun w h Y => PySem.W.kIn_of Y) ?F
  case F =>
    intro w mg fa h KX G hmg
    refine' LW.all_mk LW.law_true KX G hmg ?z_abs ?z_all ?z_any ?z_bool ?z_int ?z_isinstance ?z_len ?z_list ?z_max ?z_min ?z_range ?z_sorted ?z_tuple ?y_MOST_LEVELS ?y_MOST_LISTED ?e1_BadLevels ?e2_BadLevels ?e3_BadLevels ?e4_BadLevels ?e5_BadLevels ?e6_BadLevels ?e1_BadOrder ?e2_BadOrder ?e3_BadOrder ?e4_BadOrder ?e5_BadOrder ?e6_BadOrder ?x_BadLevels_BadLevels ?h1_law_draws_u ?h2_law_draws_u ?h3_law_draws_u ?h4_law_draws_u ?h1_law_fits_u ?h2_law_fits_u ?h3_law_fits_u ?h4_law_fits_u ?h1_law_all_u ?h2_law_all_u ?h3_law_all_u ?h4_law_all_u ?h1_is_whole ?h2_is_whole ?h3_is_whole ?h4_is_whole ?h1_check_many_u ?h2_check_many_u ?h3_check_many_u ?h4_check_many_u ?h1_crosses_u ?h2_crosses_u ?h3_crosses_u ?h4_crosses_u ?h1_longer_u ?h2_longer_u ?h3_longer_u ?h4_longer_u ?h1_is_form_u ?h2_is_form_u ?h3_is_form_u ?h4_is_form_u ?h1_order_fault ?h2_order_fault ?h3_order_fault ?h4_order_fault ?h1_listed_u ?h2_listed_u ?h3_listed_u ?h4_listed_u ?h1_labyrinths ?h2_labyrinths ?h3_labyrinths ?h4_labyrinths ?h1_count_labyrinths ?h2_count_labyrinths ?h3_count_labyrinths ?h4_count_labyrinths ?h1_labyrinth ?h2_labyrinth ?h3_labyrinth ?h4_labyrinth ?h1_law_refused_u ?h2_law_refused_u ?h3_law_refused_u ?h4_law_refused_u ?h1_check_order_u ?h2_check_order_u ?h3_check_order_u ?h4_check_order_u ?h1_turned_order ?h2_turned_order ?h3_turned_order ?h4_turned_order ?h1_law ?h2_law ?h3_law ?h4_law
    (case z_abs => k_is)
    (case z_all => k_is)
    (case z_any => k_is)
    (case z_bool => k_is)
    (case z_int => k_is)
    (case z_isinstance => k_is)
    (case z_len => k_is)
    (case z_list => k_is)
    (case z_max => k_is)
    (case z_min => k_is)
    (case z_range => k_is)
    (case z_sorted => k_is)
    (case z_tuple => k_is)
    (case y_MOST_LEVELS => k_is)
    (case y_MOST_LISTED => k_is)
    (case e1_BadLevels => k_is)
    (case e2_BadLevels => k_exc)
    (case e3_BadLevels => k_is)
    (case e4_BadLevels => k_is)
    (case e5_BadLevels => k_is)
    (case e6_BadLevels => k_is)
    (case e1_BadOrder => k_is)
    (case e2_BadOrder => k_exc)
    (case e3_BadOrder => k_is)
    (case e4_BadOrder => k_is)
    (case e5_BadOrder => k_is)
    (case e6_BadOrder => k_is)
    (case x_BadLevels_BadLevels => first | rfl | k_is)
    (case h1_law_draws_u => k_is)
    (case h2_law_draws_u => k_is)
    (case h3_law_draws_u => k_is)
    (case h4_law_draws_u => k_is)
    (case h1_law_fits_u => k_is)
    (case h2_law_fits_u => k_is)
    (case h3_law_fits_u => k_is)
    (case h4_law_fits_u => k_is)
    (case h1_law_all_u => k_is)
    (case h2_law_all_u => k_is)
    (case h3_law_all_u => k_is)
    (case h4_law_all_u => k_is)
    (case h1_is_whole => k_is)
    (case h2_is_whole => k_is)
    (case h3_is_whole => k_is)
    (case h4_is_whole => k_is)
    (case h1_check_many_u => k_is)
    (case h2_check_many_u => k_is)
    (case h3_check_many_u => k_is)
    (case h4_check_many_u => k_is)
    (case h1_crosses_u => k_is)
    (case h2_crosses_u => k_is)
    (case h3_crosses_u => k_is)
    (case h4_crosses_u => k_is)
    (case h1_longer_u => k_is)
    (case h2_longer_u => k_is)
    (case h3_longer_u => k_is)
    (case h4_longer_u => k_is)
    (case h1_is_form_u => k_is)
    (case h2_is_form_u => k_is)
    (case h3_is_form_u => k_is)
    (case h4_is_form_u => k_is)
    (case h1_order_fault => k_is)
    (case h2_order_fault => k_is)
    (case h3_order_fault => k_is)
    (case h4_order_fault => k_is)
    (case h1_listed_u => k_is)
    (case h2_listed_u => k_is)
    (case h3_listed_u => k_is)
    (case h4_listed_u => k_is)
    (case h1_labyrinths => k_is)
    (case h2_labyrinths => k_is)
    (case h3_labyrinths => k_is)
    (case h4_labyrinths => k_is)
    (case h1_count_labyrinths => k_is)
    (case h2_count_labyrinths => k_is)
    (case h3_count_labyrinths => k_is)
    (case h4_count_labyrinths => k_is)
    (case h1_labyrinth => k_is)
    (case h2_labyrinth => k_is)
    (case h3_labyrinth => k_is)
    (case h4_labyrinth => k_is)
    (case h1_law_refused_u => k_is)
    (case h2_law_refused_u => k_is)
    (case h3_law_refused_u => k_is)
    (case h4_law_refused_u => k_is)
    (case h1_check_order_u => k_is)
    (case h2_check_order_u => k_is)
    (case h3_check_order_u => k_is)
    (case h4_check_order_u => k_is)
    (case h1_turned_order => k_is)
    (case h2_turned_order => k_is)
    (case h3_turned_order => k_is)
    (case h4_turned_order => k_is)
    (case h1_law => k_is)
    (case h2_law => k_is)
    (case h3_law => k_is)
    (case h4_law => k_is)
