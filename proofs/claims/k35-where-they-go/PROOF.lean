import PyProof.Rows.All
import Wide.All
import OpenK.AllK
import Wide.FinOn
import HandS.ForMost
import HandS.ForExc
import HandS.IsInst
import HandS.Deep
import HandS.TupAny
import HandS.Conv
import HandS.Flow
import HandS.Wide
import HandS.Zip
import HandS.TupLe
import HandS.TupLen
import HandS.TupMul
import KE.SortData
import HandS.TryMany
import HandS.Style
import HandS.Small
import HandS.DictComp
import KE.DataMinMax
import HandS.Text
import HandS.More
import HandS.HeadHook3
import KE.KDictDisplayH
import HandS.TupSets
import PyProof.WalksMore
import KE.GoesEnum
import KE.KDictCopyH
import PySem.Challenge.RW_hedgeways_k35_where_they_go
set_option Elab.async false
set_option linter.all false
set_option maxRecDepth 100000
set_option maxHeartbeats 2000000
namespace DL
open PySem PySem.Spec PyProof.Rows L2

/-- data: what a Python value is, as a tree -/
inductive D where
  | non | bl (b : Bool) | int (i : Int) | str (s : Str) | ty (n : String)
  | tup (xs : List D) | lst (xs : List D) | fz (xs : List D) | kt (xs : List D)
  | dk (ks : List Key) (xs : List D) | dt (ks : List (List Key)) (xs : List D)
  | ins (c : Str) (id : Option Nat) (fs : List Str) (xs : List D)
  | fi (c : Str) (fs : List Str) (xs : List D)
  | io (b : Option Bool) (s : D)
  | fl (xs : List D)

/-- what a run gives: a value, an own exception by its class's name, nothing that is told -/
inductive R (a : Type) where
  | ok (x : a) | ex (c : Str) | no
def R.bind {a b : Type} (x : R a) (f : a → R b) : R b := match x with
  | .ok y => f y
  | .ex c => .ex c
  | .no => .no
instance : Monad R where
  pure := R.ok
  bind := R.bind
theorem nr {a : Type} {x y : a} (h : x = y) : x = y := h
@[simp] theorem R.pure_eq {a : Type} (x : a) : (pure x : R a) = .ok x := nr rfl
@[simp] theorem R.bind_ok {a b : Type} (x : a) (f : a → R b) : ((R.ok x) >>= f) = f x := nr rfl
@[simp] theorem R.bind_ex {a b : Type} (c : Str) (f : a → R b) : ((R.ex c : R a) >>= f) = .ex c := nr rfl
@[simp] theorem R.bind_no {a b : Type} (f : a → R b) : ((R.no : R a) >>= f) = .no := nr rfl

/-- a tuple of the written part -/
def KTup (K : PySem.W.Frag) (a : Addr) (xs : List V) : Prop :=
  ∃ (o : Obj) (its : Array Value) (n : Nat), K.lookup a = some o ∧ o.cls = .type "tuple" ∧ o.data = .seq its n ∧ its.size ≤ sizeLine ∧ Vals xs its.toList

/-- all that was tracked is as it was -/
abbrev Sm (H H' : Hp) : Prop := ∀ b o, H b = some o → H' b = some o
theorem Sm.refl (H : Hp) : Sm H H := fun _ _ h => h
theorem Sm.trans {H H1 H2 : Hp} (a : Sm H H1) (b : Sm H1 H2) : Sm H H2 := fun c o h => b c o (a c o h)
theorem Sm.new {H : Hp} {p : Addr} {o : HO} (h : H p = none) : Sm H (upd H p o) := fun a u e => by
  rw [upd_ne (ne_of_none e h)]; exact e
theorem Sm.back {H H' : Hp} {p : Addr} (e : Sm H H') (h : H' p = none) : H p = none := by
  cases h1 : H p with
  | none => rfl
  | some o => rw [e p o h1] at h; cases h

/-- a list of the top, or one that is held fast: it stays as it is -/
def FzL (K : PySem.W.Frag) (H : Hp) (a : Addr) (vs : List V) : Prop := (∃ o, H a = some (.frz o (.lst vs))) ∨ ∃ (o : Obj) (its : Array Value) (n : Nat), K.lookup a = some o ∧ o.cls = .type "list" ∧ o.dict = none ∧ o.data = .seq its n ∧ its.size ≤ sizeLine ∧ Vals vs its.toList
theorem FzL.sq {K : PySem.W.Frag} {H : Hp} {a : Addr} {vs : List V} (h : FzL K H a vs) : SqL K H a vs := by
  rcases h with ⟨o, h⟩ | h
  · exact .inl (.inr ⟨o, h⟩)
  · exact .inr h
/-- what a method that changes its instance gives back -/
def ioV : Option Bool → V
  | none => .non
  | some b => .bl b
section
variable (K : PySem.W.Frag) (mg : Str → Option Value) (H : Hp)
mutual
/-- v is d in H; fp: the objects that may be changed, from the left -/
def Val : D → V → List Addr → Prop
  | .non, v, fp => v = .non ∧ fp = []
  | .bl b, v, fp => v = .bl b ∧ fp = []
  | .int i, v, fp => v = .int i ∧ fp = []
  | .str x, v, fp => v = .str x ∧ fp = []
  | .ty n, v, fp => v = .ty n ∧ fp = []
  | .tup ds, v, fp => ∃ a vs, v = .ref a ∧ H a = some (.tup vs) ∧ VAll ds vs fp
  | .kt ds, v, fp => ∃ a vs, v = .ref a ∧ KTup K a vs ∧ VAll ds vs fp
  | .lst ds, v, fp => ∃ a vs f, v = .ref a ∧ fp = a :: f ∧ H a = some (.lst vs) ∧ VAll ds vs f
  | .fz ds, v, fp => ∃ a vs, v = .ref a ∧ FzL K H a vs ∧ VAll ds vs fp
  | .dk ks ds, v, fp => ∃ a kvs f, v = .ref a ∧ fp = a :: f ∧ Rd H a (.dK kvs) ∧ kvs.map (·.1) = ks ∧ VAll ds (kvs.map (·.2)) f
  | .dt ks ds, v, fp => ∃ a kvs f, v = .ref a ∧ fp = a :: f ∧ Rd H a (.dT kvs) ∧ kvs.map (·.1) = ks ∧ VAll ds (kvs.map (·.2)) f
  | .ins c id fs ds, v, fp => ∃ a C dx kvs f, v = .ref a ∧ fp = a :: f ∧ mg c = some (.ref C) ∧ H a = some (.ins C dx kvs) ∧ kvs.map (·.1) = fs ∧ VAll ds (kvs.map (·.2)) f ∧ ∀ i, id = some i → dx = i ∧ H dx = some (.own a)
  | .fi c fs ds, v, fp => ∃ a C dx kvs o, v = .ref a ∧ mg c = some (.ref C) ∧ H a = some (.frz o (.ins C dx kvs)) ∧ kvs.map (·.1) = fs ∧ VAll ds (kvs.map (·.2)) fp
  | .io b s, v, fp => v = ioV b ∧ ∃ x, Val s x fp
  | .fl ds, v, fp => ∃ a vs o, v = .ref a ∧ H a = some (.frz o (.lst vs)) ∧ VAll ds vs fp
def VAll : List D → List V → List Addr → Prop
  | [], vs, fp => vs = [] ∧ fp = []
  | d :: ds, vs, fp => ∃ v vr f g, vs = v :: vr ∧ fp = f ++ g ∧ Val d v f ∧ VAll ds vr g
end
end

mutual
/-- nothing in it can be changed -/
def imm : D → Bool
  | .non => true
  | .bl _ => true
  | .int _ => true
  | .str _ => true
  | .ty _ => true
  | .tup ds => immAll ds
  | .kt ds => immAll ds
  | .lst _ => false
  | .fz ds => immAll ds
  | .dk _ _ => false
  | .dt _ _ => false
  | .ins _ _ _ _ => false
  | .fi _ _ ds => immAll ds
  | .io _ _ => false
  | .fl ds => immAll ds
def immAll : List D → Bool
  | [] => true
  | d :: ds => imm d && immAll ds
end

/-- what Val leans on stays -/
structure Kp (fp : List Addr) (H H' : Hp) : Prop where
  rd : ∀ b u, b ∈ fp → Rd H b u → Rd H' b u
  lst : ∀ b vs, b ∈ fp → H b = some (.lst vs) → H' b = some (.lst vs)
  fz : ∀ b o vs, H b = some (.frz o (.lst vs)) → H' b = some (.frz o (.lst vs))
  ins : ∀ b C dx fs, b ∈ fp → H b = some (.ins C dx fs) → H' b = some (.ins C dx fs)
  tup : ∀ b xs, H b = some (.tup xs) → H' b = some (.tup xs)
  own : ∀ b x, H b = some (.own x) → H' b = some (.own x)
  fzi : ∀ b o C dx fs, H b = some (.frz o (.ins C dx fs)) → H' b = some (.frz o (.ins C dx fs))
theorem Sm.rd {H H' : Hp} (e : Sm H H') {b : Addr} {u : HO} (h : Rd H b u) : Rd H' b u := by
  rcases h with h | ⟨o, h⟩
  · exact .inl (e _ _ h)
  · exact .inr ⟨o, e _ _ h⟩
theorem Sm.kp {H H' : Hp} (e : Sm H H') (fp : List Addr) : Kp fp H H' := ⟨fun _ _ _ h => e.rd h, fun _ _ _ h => e _ _ h, fun _ _ _ h => e _ _ h, fun _ _ _ _ _ h => e _ _ h, fun _ _ h => e _ _ h, fun _ _ h => e _ _ h, fun _ _ _ _ _ h => e _ _ h⟩
theorem Kp.sub {fp f : List Addr} {H H' : Hp} (k : Kp fp H H') (h : ∀ a ∈ f, a ∈ fp) : Kp f H H' :=
  ⟨fun b u hb => k.rd b u (h b hb), fun b vs hb => k.lst b vs (h b hb), k.fz, fun b C dx fs hb => k.ins b C dx fs (h b hb), k.tup, k.own, k.fzi⟩
theorem Kp.upd {fp : List Addr} {H : Hp} {a : Addr} {o : HO} (ha : a ∉ fp) (ht : ∀ xs, H a ≠ some (.tup xs)) (hf : ∀ o xs, H a ≠ some (.frz o xs)) (ho : ∀ x, H a ≠ some (.own x)) : Kp fp H (upd H a o) :=
  ⟨fun b u hb h => by
    have e : b ≠ a := fun z => ha (z ▸ hb)
    rcases h with h | ⟨o', h⟩
    · exact .inl (by rw [upd_ne e]; exact h)
    · exact .inr ⟨o', by rw [upd_ne e]; exact h⟩,
   fun b vs hb h => by
    have e : b ≠ a := fun z => ha (z ▸ hb)
    rw [upd_ne e]; exact h,
   fun b o vs h => by
    have e : b ≠ a := fun z => by subst z; exact hf _ _ h
    rw [upd_ne e]; exact h,
   fun b C dx fs hb h => by
    have e : b ≠ a := fun z => ha (z ▸ hb)
    rw [upd_ne e]; exact h,
   fun b xs h => by
    have e : b ≠ a := fun z => by subst z; exact ht xs h
    rw [upd_ne e]; exact h,
   fun b xs h => by
    have e : b ≠ a := fun z => by subst z; exact ho xs h
    rw [upd_ne e]; exact h,
   fun b o C dx fs h => by
    have e : b ≠ a := fun z => by subst z; exact hf _ _ h
    rw [upd_ne e]; exact h⟩
section
variable {K : PySem.W.Frag} {mg : Str → Option Value} {H H' : Hp}
mutual
theorem Val.kp : ∀ (d : D) {v : V} {fp : List Addr}, Val K mg H d v fp → Kp fp H H' → Val K mg H' d v fp
  | .non, v, fp, h, k => by simpa [Val] using h
  | .bl b, v, fp, h, k => by simpa [Val] using h
  | .int i, v, fp, h, k => by simpa [Val] using h
  | .str x, v, fp, h, k => by simpa [Val] using h
  | .ty n, v, fp, h, k => by simpa [Val] using h
  | .tup ds, v, fp, h, k => by
    simp only [Val] at h ⊢
    obtain ⟨a, vs, e, t, q⟩ := h
    exact ⟨a, vs, e, k.tup _ _ t, VAll.kp ds q k⟩
  | .kt ds, v, fp, h, k => by
    simp only [Val] at h ⊢
    obtain ⟨a, vs, e, t, q⟩ := h
    exact ⟨a, vs, e, t, VAll.kp ds q k⟩
  | .fz ds, v, fp, h, k => by
    simp only [Val] at h ⊢
    obtain ⟨a, vs, e, t, q⟩ := h
    exact ⟨a, vs, e, t.imp (fun ⟨o, z⟩ => ⟨o, k.fz _ _ _ z⟩) id, VAll.kp ds q k⟩
  | .lst ds, v, fp, h, k => by
    simp only [Val] at h ⊢
    obtain ⟨a, vs, f, e, ef, t, q⟩ := h
    exact ⟨a, vs, f, e, ef, k.lst _ _ (by rw [ef]; exact List.mem_cons_self) t, VAll.kp ds q (k.sub fun b hb => by rw [ef]; exact List.mem_cons_of_mem _ hb)⟩
  | .dk ks ds, v, fp, h, k => by
    simp only [Val] at h ⊢
    obtain ⟨a, kvs, f, e, ef, t, hk, q⟩ := h
    exact ⟨a, kvs, f, e, ef, k.rd _ _ (by rw [ef]; exact List.mem_cons_self) t, hk, VAll.kp ds q (k.sub fun b hb => by rw [ef]; exact List.mem_cons_of_mem _ hb)⟩
  | .dt ks ds, v, fp, h, k => by
    simp only [Val] at h ⊢
    obtain ⟨a, kvs, f, e, ef, t, hk, q⟩ := h
    exact ⟨a, kvs, f, e, ef, k.rd _ _ (by rw [ef]; exact List.mem_cons_self) t, hk, VAll.kp ds q (k.sub fun b hb => by rw [ef]; exact List.mem_cons_of_mem _ hb)⟩
  | .ins c id fs ds, v, fp, h, k => by
    simp only [Val] at h ⊢
    obtain ⟨a, C, dx, kvs, f, e, ef, m, t, hk, q, w⟩ := h
    exact ⟨a, C, dx, kvs, f, e, ef, m, k.ins _ _ _ _ (by rw [ef]; exact List.mem_cons_self) t, hk, VAll.kp ds q (k.sub fun b hb => by rw [ef]; exact List.mem_cons_of_mem _ hb), fun i hi => ⟨(w i hi).1, k.own _ _ (w i hi).2⟩⟩
  | .fi c fs ds, v, fp, h, k => by
    simp only [Val] at h ⊢
    obtain ⟨a, C, dx, kvs, o, e, m, t, hk, q⟩ := h
    exact ⟨a, C, dx, kvs, o, e, m, k.fzi _ _ _ _ _ t, hk, VAll.kp ds q k⟩
  | .io b s, v, fp, h, k => by
    simp only [Val] at h ⊢
    obtain ⟨e, x, q⟩ := h
    exact ⟨e, x, Val.kp s q k⟩
  | .fl ds, v, fp, h, k => by
    simp only [Val] at h ⊢
    obtain ⟨a, vs, o, e, t, q⟩ := h
    exact ⟨a, vs, o, e, k.fz _ _ _ t, VAll.kp ds q k⟩
theorem VAll.kp : ∀ (ds : List D) {vs : List V} {fp : List Addr}, VAll K mg H ds vs fp → Kp fp H H' → VAll K mg H' ds vs fp
  | [], vs, fp, h, k => by simpa [VAll] using h
  | d :: ds, vs, fp, h, k => by
    simp only [VAll] at h ⊢
    obtain ⟨v, vr, f, g, e, ef, h1, h2⟩ := h
    exact ⟨v, vr, f, g, e, ef, Val.kp d h1 (k.sub fun b hb => by rw [ef]; exact List.mem_append_left _ hb), VAll.kp ds h2 (k.sub fun b hb => by rw [ef]; exact List.mem_append_right _ hb)⟩
end
theorem Val.sm {d : D} {v : V} {fp : List Addr} (h : Val K mg H d v fp) (e : Sm H H') : Val K mg H' d v fp := Val.kp d h (e.kp _)
theorem VAll.sm {d : List D} {v : List V} {fp : List Addr} (h : VAll K mg H d v fp) (e : Sm H H') : VAll K mg H' d v fp := VAll.kp d h (e.kp _)
mutual
theorem Val.imm : ∀ (d : D) {v : V} {fp : List Addr}, Val K mg H d v fp → imm d = true → fp = []
  | .non, v, fp, h, k => by simp only [Val] at h; exact h.2
  | .bl b, v, fp, h, k => by simp only [Val] at h; exact h.2
  | .int i, v, fp, h, k => by simp only [Val] at h; exact h.2
  | .str x, v, fp, h, k => by simp only [Val] at h; exact h.2
  | .ty n, v, fp, h, k => by simp only [Val] at h; exact h.2
  | .tup ds, v, fp, h, k => by
    simp only [Val] at h
    obtain ⟨a, vs, e, t, q⟩ := h
    exact VAll.imm ds q (by simpa [DL.imm] using k)
  | .kt ds, v, fp, h, k => by
    simp only [Val] at h
    obtain ⟨a, vs, e, t, q⟩ := h
    exact VAll.imm ds q (by simpa [DL.imm] using k)
  | .lst ds, v, fp, h, k => by simp [DL.imm] at k
  | .fz ds, v, fp, h, k => by
    simp only [Val] at h
    obtain ⟨a, vs, e, t, q⟩ := h
    exact VAll.imm ds q (by simpa [DL.imm] using k)
  | .dk ks ds, v, fp, h, k => by simp [DL.imm] at k
  | .dt ks ds, v, fp, h, k => by simp [DL.imm] at k
  | .ins c id fs ds, v, fp, h, k => by simp [DL.imm] at k
  | .fi c fs ds, v, fp, h, k => by
    simp only [Val] at h
    obtain ⟨a, C, dx, kvs, o, e, m, t, hk, q⟩ := h
    exact VAll.imm ds q (by simpa [DL.imm] using k)
  | .io b s, v, fp, h, k => by simp [DL.imm] at k
  | .fl ds, v, fp, h, k => by
    simp only [Val] at h
    obtain ⟨a, vs, o, e, t, q⟩ := h
    exact VAll.imm ds q (by simpa [DL.imm] using k)
theorem VAll.imm : ∀ (ds : List D) {vs : List V} {fp : List Addr}, VAll K mg H ds vs fp → immAll ds = true → fp = []
  | [], vs, fp, h, k => by simp only [VAll] at h; exact h.2
  | d :: ds, vs, fp, h, k => by
    simp only [VAll] at h
    obtain ⟨v, vr, f, g, e, ef, h1, h2⟩ := h
    have k' : DL.imm d = true ∧ immAll ds = true := by simpa [immAll] using k
    rw [ef, Val.imm d h1 k'.1, VAll.imm ds h2 k'.2]; rfl
end
mutual
theorem Val.dom : ∀ (d : D) {v : V} {fp : List Addr}, Val K mg H d v fp → ∀ a ∈ fp, ∃ o, H a = some o ∧ ∀ xs, o ≠ .tup xs
  | .non, v, fp, h => by simp only [Val] at h; simp [h.2]
  | .bl b, v, fp, h => by simp only [Val] at h; simp [h.2]
  | .int i, v, fp, h => by simp only [Val] at h; simp [h.2]
  | .str x, v, fp, h => by simp only [Val] at h; simp [h.2]
  | .ty n, v, fp, h => by simp only [Val] at h; simp [h.2]
  | .tup ds, v, fp, h => by
    simp only [Val] at h
    obtain ⟨a, vs, e, t, q⟩ := h
    exact VAll.dom ds q
  | .kt ds, v, fp, h => by
    simp only [Val] at h
    obtain ⟨a, vs, e, t, q⟩ := h
    exact VAll.dom ds q
  | .lst ds, v, fp, h => by
    simp only [Val] at h
    obtain ⟨a, vs, f, e, ef, t, q⟩ := h
    intro b hb
    rw [ef] at hb
    rcases List.mem_cons.mp hb with z | z
    · subst z
      exact ⟨_, t, fun _ z => nomatch z⟩
    · exact VAll.dom ds q b z
  | .fz ds, v, fp, h => by
    simp only [Val] at h
    obtain ⟨a, vs, e, t, q⟩ := h
    exact VAll.dom ds q
  | .dk ks ds, v, fp, h => by
    simp only [Val] at h
    obtain ⟨a, kvs, f, e, ef, t, hk, q⟩ := h
    intro b hb
    rw [ef] at hb
    rcases List.mem_cons.mp hb with z | z
    · subst z
      rcases t with t | ⟨o, t⟩
      · exact ⟨_, t, fun _ z => nomatch z⟩
      · exact ⟨_, t, fun _ z => nomatch z⟩
    · exact VAll.dom ds q b z
  | .dt ks ds, v, fp, h => by
    simp only [Val] at h
    obtain ⟨a, kvs, f, e, ef, t, hk, q⟩ := h
    intro b hb
    rw [ef] at hb
    rcases List.mem_cons.mp hb with z | z
    · subst z
      rcases t with t | ⟨o, t⟩
      · exact ⟨_, t, fun _ z => nomatch z⟩
      · exact ⟨_, t, fun _ z => nomatch z⟩
    · exact VAll.dom ds q b z
  | .ins c id fs ds, v, fp, h => by
    simp only [Val] at h
    obtain ⟨a, C, dx, kvs, f, e, ef, m, t, hk, q, _⟩ := h
    intro b hb
    rw [ef] at hb
    rcases List.mem_cons.mp hb with z | z
    · subst z; exact ⟨_, t, fun _ z => nomatch z⟩
    · exact VAll.dom ds q b z
  | .fi c fs ds, v, fp, h => by
    simp only [Val] at h
    obtain ⟨a, C, dx, kvs, o, e, m, t, hk, q⟩ := h
    exact VAll.dom ds q
  | .io b s, v, fp, h => by
    simp only [Val] at h
    obtain ⟨e, x, q⟩ := h
    exact Val.dom s q
  | .fl ds, v, fp, h => by
    simp only [Val] at h
    obtain ⟨a, vs, o, e, t, q⟩ := h
    exact VAll.dom ds q
theorem VAll.dom : ∀ (ds : List D) {vs : List V} {fp : List Addr}, VAll K mg H ds vs fp → ∀ a ∈ fp, ∃ o, H a = some o ∧ ∀ xs, o ≠ .tup xs
  | [], vs, fp, h => by simp only [VAll] at h; simp [h.2]
  | d :: ds, vs, fp, h => by
    simp only [VAll] at h
    obtain ⟨v, vr, f, g, e, ef, h1, h2⟩ := h
    intro b hb
    rw [ef] at hb
    rcases List.mem_append.mp hb with z | z
    · exact Val.dom d h1 b z
    · exact VAll.dom ds h2 b z
end
theorem Val.gone {d : D} {v : V} {fp : List Addr} (h : Val K mg H d v fp) {a : Addr} (ha : a ∈ fp) (n : H a = none) : False := by
  obtain ⟨o, e, _⟩ := Val.dom d h a ha
  rw [n] at e; cases e
/-! ### lists of values -/
theorem VAll.nil : VAll K mg H [] [] [] := by simp [VAll]
theorem VAll.cons {d : D} {v : V} {f : List Addr} {ds : List D} {vs : List V} {g : List Addr} (h : Val K mg H d v f) (t : VAll K mg H ds vs g) : VAll K mg H (d :: ds) (v :: vs) (f ++ g) := by
  simp only [VAll]; exact ⟨v, vs, f, g, rfl, rfl, h, t⟩
theorem VAll.length : ∀ {ds : List D} {vs : List V} {f : List Addr}, VAll K mg H ds vs f → vs.length = ds.length
  | [], vs, f, h => by simp only [VAll] at h; rw [h.1]; rfl
  | d :: ds, vs, f, h => by
    simp only [VAll] at h
    obtain ⟨v, vr, f, g, e, ef, h1, h2⟩ := h
    rw [e]; simp [VAll.length h2]
theorem VAll.append : ∀ {ds : List D} {vs : List V} {f : List Addr} {es : List D} {us : List V} {g : List Addr}, VAll K mg H ds vs f → VAll K mg H es us g → VAll K mg H (ds ++ es) (vs ++ us) (f ++ g)
  | [], vs, f, es, us, g, h, k => by simp only [VAll] at h; rw [h.1, h.2]; exact k
  | d :: ds, vs, f, es, us, g, h, k => by
    simp only [VAll] at h
    obtain ⟨v, vr, f1, g1, e, ef, h1, h2⟩ := h
    rw [e, ef]
    simp only [List.cons_append, List.append_assoc]
    exact .cons h1 (VAll.append h2 k)
theorem VAll.one {d : D} {v : V} {f : List Addr} (h : Val K mg H d v f) : VAll K mg H [d] [v] f := by
  have q := VAll.cons h VAll.nil
  rw [List.append_nil] at q
  exact q
theorem VAll.get : ∀ {ds : List D} {vs : List V} {f : List Addr} {i : Nat} {d : D}, VAll K mg H ds vs f → ds[i]? = some d → ∃ v g, vs[i]? = some v ∧ Val K mg H d v g ∧ ∀ a ∈ g, a ∈ f
  | [], vs, f, i, d, h, e => by simp at e
  | d0 :: ds, vs, f, i, d, h, e => by
    simp only [VAll] at h
    obtain ⟨v, vr, f1, g1, ev, ef, h1, h2⟩ := h
    rw [ev, ef]
    cases i with
    | zero =>
      have e' : d0 = d := by simpa using e
      subst e'
      exact ⟨v, f1, rfl, h1, fun a ha => List.mem_append_left _ ha⟩
    | succ i =>
      obtain ⟨u, g, h3, h4, h5⟩ := VAll.get (i := i) (d := d) h2 (by simpa using e)
      exact ⟨u, g, by simpa using h3, h4, fun a ha => List.mem_append_right _ (h5 a ha)⟩
theorem VAll.getV {ds : List D} {vs : List V} {f : List Addr} {i : Nat} {v : V} (h : VAll K mg H ds vs f) (e : vs[i]? = some v) : ∃ d g, ds[i]? = some d ∧ Val K mg H d v g ∧ ∀ a ∈ g, a ∈ f := by
  have hl : i < ds.length := by rw [← h.length]; exact (List.getElem?_eq_some_iff.mp e).1
  have hd : ds[i]? = some ds[i] := List.getElem?_eq_getElem hl
  obtain ⟨u, g, h1, h2, h3⟩ := h.get hd
  rw [e] at h1; cases h1
  exact ⟨_, g, hd, h2, h3⟩
/-- a part of it -/
theorem VAll.take : ∀ {ds : List D} {vs : List V} {f : List Addr} (n : Nat), VAll K mg H ds vs f → ∃ g g', VAll K mg H (ds.take n) (vs.take n) g ∧ VAll K mg H (ds.drop n) (vs.drop n) g' ∧ f = g ++ g'
  | ds, vs, f, 0, h => ⟨[], f, by simpa using VAll.nil, by simpa using h, rfl⟩
  | [], vs, f, n + 1, h => by
    simp only [VAll] at h
    exact ⟨[], [], by rw [h.1]; simpa using VAll.nil, by rw [h.1]; simpa using VAll.nil, by rw [h.2]; rfl⟩
  | d :: ds, vs, f, n + 1, h => by
    simp only [VAll] at h
    obtain ⟨v, vr, f1, g1, ev, ef, h1, h2⟩ := h
    obtain ⟨g, g', q1, q2, q3⟩ := VAll.take n h2
    refine ⟨f1 ++ g, g', ?_, ?_, by rw [ef, q3, List.append_assoc]⟩
    · rw [ev]; exact .cons h1 q1
    · rw [ev]; exact q2
end
end DL
set_option Elab.async false
set_option linter.all false
set_option maxRecDepth 100000
set_option maxHeartbeats 2000000
namespace DL
open PySem PySem.Spec PyProof.Rows L2

/-- a slot: empty, a value that others may hold too, a value that is the slot's own -/
inductive Sl where
  | un | sh (d : D) | ow (d : D)
@[simp] def Sl.val : Sl → Option D
  | .un => none
  | .sh d => some d
  | .ow d => some d
abbrev En := List Sl
def look (env : En) (i : Nat) : Option D := (env[i]?).bind Sl.val

def R.of {a : Type} : Option a → R a
  | some x => .ok x
  | none => .no
@[simp] theorem R.of_some {a : Type} (x : a) : R.of (some x) = .ok x := nr rfl
@[simp] theorem R.of_none {a : Type} : R.of (none : Option a) = .no := nr rfl

section
variable (K : PySem.W.Frag) (mg : Str → Option Value)
/-- the slots hold env; what may be changed of it is within S -/
structure PEnv (S : Addr → Prop) (env : En) (σ : L2.St) (H : Hp) : Prop where
  len : env.length = σ.length
  val : ∀ i d, look env i = some d → ∃ v fp, σ[i]? = some (some v) ∧ Val K mg H d v fp ∧ ∀ a ∈ fp, S a
def Out (W : WX) (σ : L2.St) (H : Hp) {a : Type} (r : R a) (k : a → Prop) : Prop := match r with
  | .ok x => k x
  | .ex c => ∀ C H', mg c = some (.ref C) → Sm H H' → W (.ref C) none σ H'
  | .no => False
def After (S : Addr → Prop) (H : Hp) (d : D) (Q : VK) : Prop := ∀ v H' fp, Sm H H' → Val K mg H' d v fp → (∀ a ∈ fp, S a ∨ H a = none) → Q v H'
def AfterL (S : Addr → Prop) (H : Hp) (ds : List D) (Q : List V → Hp → Prop) : Prop := ∀ vs H' fp, Sm H H' → VAll K mg H' ds vs fp → (∀ a ∈ fp, S a ∨ H a = none) → Q vs H'
/-- a fresh value: nothing of it was there -/
def AfterF (H : Hp) (d : D) (Q : VK) : Prop := ∀ v H' fp, Sm H H' → Val K mg H' d v fp → fp.Nodup → (∀ a ∈ fp, H a = none ∧ Mut (H' a)) → Q v H'
def tE (W : WX) (f : En → R D) : TE := fun σ H Q => ∃ S env, PEnv K mg S env σ H ∧ Out mg W σ H (f env) fun d => After K mg S H d Q
def tF (W : WX) (f : En → R D) : TE := fun σ H Q => ∃ S env, PEnv K mg S env σ H ∧ Out mg W σ H (f env) fun d => AfterF K mg H d Q
def tT (W : WX) (f : En → R Bool) : TT := fun σ H Q => ∃ S env, PEnv K mg S env σ H ∧ Out mg W σ H (f env) fun b => ∀ H', Sm H H' → Q b H'
def tA (W : WX) (f : En → R (List D)) : TA := fun σ H Q => ∃ S env, PEnv K mg S env σ H ∧ Out mg W σ H (f env) fun ds => AfterL K mg S H ds Q
end
/-- e computes f -/
abbrev DE (X : Cx) (W : WX) (e : Expr) (f : En → R D) : Prop := PE X e (tE X.K X.mg W f)
abbrev DF (X : Cx) (W : WX) (e : Expr) (f : En → R D) : Prop := PE X e (tF X.K X.mg W f)
abbrev DT (X : Cx) (W : WX) (e : Expr) (f : En → R Bool) : Prop := PT X e (tT X.K X.mg W f)
abbrev DA (X : Cx) (W : WX) (es : List Expr) (f : En → R (List D)) : Prop := PA X es (tA X.K X.mg W f)

theorem pe_weak {X : Cx} {e : Expr} {t t' : TE} (h : PE X e t) (w : ∀ σ H Q, t' σ H Q → t σ H Q) : PE X e t' := ⟨fun pins s σ H Q I q => h.run pins s σ H Q I (w σ H Q q)⟩
theorem pt_weak {X : Cx} {e : Expr} {t t' : TT} (h : PT X e t) (w : ∀ σ H Q, t' σ H Q → t σ H Q) : PT X e t' := ⟨fun pins s σ H Q I q => h.run pins s σ H Q I (w σ H Q q)⟩
theorem pa_weak {X : Cx} {e : List Expr} {t t' : TA} (h : PA X e t) (w : ∀ σ H Q, t' σ H Q → t σ H Q) : PA X e t' := ⟨fun pos pins s σ H Q I q => h.run pos pins s σ H Q I (w σ H Q q)⟩

section
variable {K : PySem.W.Frag} {mg : Str → Option Value} {S : Addr → Prop} {env : En} {σ : L2.St} {H H' : Hp} {W : WX}
theorem PEnv.sm (P : PEnv K mg S env σ H) (e : Sm H H') : PEnv K mg S env σ H' := ⟨P.len, fun i d h => by
  obtain ⟨v, fp, h1, h2, h3⟩ := P.val i d h
  exact ⟨v, fp, h1, h2.sm e, h3⟩⟩
theorem PEnv.wide {S' : Addr → Prop} (P : PEnv K mg S env σ H) (w : ∀ a, S a → S' a) : PEnv K mg S' env σ H := ⟨P.len, fun i d h => by
  obtain ⟨v, fp, h1, h2, h3⟩ := P.val i d h
  exact ⟨v, fp, h1, h2, fun a ha => w a (h3 a ha)⟩⟩
theorem Out.sm {a : Type} {r : R a} {k : a → Prop} (h : Out mg W σ H r k) (e : Sm H H') : Out mg W σ H' r k := by
  cases r with
  | ok x => exact h
  | ex c => exact fun C H2 m q => h C H2 m (e.trans q)
  | no => exact h
theorem Out.imp {a : Type} {r : R a} {k k' : a → Prop} (h : Out mg W σ H r k) (w : ∀ x, k x → k' x) : Out mg W σ H r k' := by
  cases r with
  | ok x => exact w x h
  | ex c => exact h
  | no => exact h
/-- the first part of two -/
theorem Out.bind {a b : Type} {r : R a} {g : a → R b} {k : b → Prop} (h : Out mg W σ H (r >>= g) k) : Out mg W σ H r fun x => Out mg W σ H (g x) k := by
  cases r with
  | ok x => exact h
  | ex c => exact h
  | no => exact h
theorem Out.of {a : Type} {o : Option a} {k : a → Prop} (h : Out mg W σ H (R.of o) k) : ∃ x, o = some x ∧ k x := by
  cases o with
  | none => exact h.elim
  | some x => exact ⟨x, rfl, h⟩
theorem Out.ok_of {a : Type} {x : a} {k : a → Prop} (h : Out mg W σ H (R.ok x) k) : k x := h

/-! ### steps of readings -/
theorem stE {f : En → R D} {b : Type} {g : D → R b} {k : b → Prop} {Q : VK} (P : PEnv K mg S env σ H) (h : Out mg W σ H (f env >>= g) k)
    (n : ∀ d v H' fp, Sm H H' → Val K mg H' d v fp → (∀ a ∈ fp, S a ∨ H a = none) → Out mg W σ H' (g d) k → Q v H') : tE K mg W f σ H Q :=
  ⟨S, env, P, h.bind.imp fun d q v H' fp e hv hp => n d v H' fp e hv hp (q.sm e)⟩
theorem stT {f : En → R Bool} {b : Type} {g : Bool → R b} {k : b → Prop} {Q : Bool → Hp → Prop} (P : PEnv K mg S env σ H) (h : Out mg W σ H (f env >>= g) k)
    (n : ∀ d H', Sm H H' → Out mg W σ H' (g d) k → Q d H') : tT K mg W f σ H Q :=
  ⟨S, env, P, h.bind.imp fun d q H' e => n d H' e (q.sm e)⟩
theorem stA {f : En → R (List D)} {b : Type} {g : List D → R b} {k : b → Prop} {Q : List V → Hp → Prop} (P : PEnv K mg S env σ H) (h : Out mg W σ H (f env >>= g) k)
    (n : ∀ d v H' fp, Sm H H' → VAll K mg H' d v fp → (∀ a ∈ fp, S a ∨ H a = none) → Out mg W σ H' (g d) k → Q v H') : tA K mg W f σ H Q :=
  ⟨S, env, P, h.bind.imp fun d q v H' fp e hv hp => n d v H' fp e hv hp (q.sm e)⟩
theorem enE {f : En → R D} {Q : VK} (P : PEnv K mg S env σ H) (h : Out mg W σ H (f env) fun d => After K mg S H d Q) : tE K mg W f σ H Q := ⟨S, env, P, h⟩
/-- provenance seen from ahead -/
theorem prov {fp : List Addr} {H1 : Hp} (e : Sm H H1) (h : ∀ a ∈ fp, S a ∨ H1 a = none) : ∀ a ∈ fp, S a ∨ H a = none := fun a ha => (h a ha).imp id fun z => e.back z
theorem After.sm {d : D} {Q : VK} (h : After K mg S H d Q) (e : Sm H H') : After K mg S H' d Q := fun v H2 fp e2 hv hp => h v H2 fp (e.trans e2) hv (prov e hp)
end

/-! ### names and constants -/
section
variable {X : Cx} {W : WX}
def eVar (i : Nat) (env : En) : R D := R.of (look env i)
def eC (d : D) (_ : En) : R D := .ok d
theorem de_var {i : Nat} {x : Str} {pos : Pos} (h : PE X (.Name x pos) (tVar i)) : DE X W (.Name x pos) (eVar i) := pe_weak h fun σ H Q ⟨S, env, P, q⟩ => by
  obtain ⟨d, e, q⟩ := Out.of q
  obtain ⟨v, fp, h1, h2, h3⟩ := P.val i d e
  exact ⟨v, h1, q v H fp (Sm.refl H) h2 fun a ha => .inl (h3 a ha)⟩
/-- a value that stands in no heap -/
theorem de_c {e : Expr} {v : V} {d : D} (h : PE X e (tC v)) (hv : ∀ H, Val X.K X.mg H d v []) : DE X W e (eC d) := pe_weak h fun σ H Q ⟨S, env, P, q⟩ =>
  q v H [] (Sm.refl H) (hv H) (by simp)
theorem de_int {i j pos} : DE X W (.Constant (.int i) j pos) (eC (.int i)) := de_c pe_int fun H => by simp [Val]
theorem de_bl {b j pos} : DE X W (.Constant (.bool b) j pos) (eC (.bl b)) := de_c pe_bl fun H => by simp [Val]
theorem de_non {j pos} : DE X W (.Constant .none j pos) (eC .non) := de_c pe_non fun H => by simp [Val]
theorem de_str {x j pos} : DE X W (.Constant (.str x) j pos) (eC (.str x)) := de_c pe_str fun H => by simp [Val]
/-- a module's constant -/
theorem de_glob {x : Str} {v : V} {u : Value} {pos : Pos} {d : D} (hm : X.mg x = some u) (r : RelV v u) (hv : ∀ H, Val X.K X.mg H d v []) (hg : Gl X x := by rfl) (hd : (x == ("__debug__" : Str)) = false := by decide) : DE X W (.Name x pos) (eC d) :=
  de_c (pe_glob hg hm r hd) hv
theorem de_ty {x : Str} {n : String} {pos : Pos} (hm : X.mg x = none) (hv : bootBuiltins x = some (.type n)) (hg : Gl X x := by rfl) (hn : x ≠ "__name__" := by decide) (hd : (x == ("__debug__" : Str)) = false := by decide) : DE X W (.Name x pos) (eC (.ty n)) :=
  de_c (pe_bltn hg hm hv (v := .ty n) rfl hn hd) fun H => by simp [Val]

/-- fresh is a kind of any -/
theorem DF.de {e : Expr} {f : En → R D} (h : DF X W e f) : DE X W e f := pe_weak h fun σ H Q ⟨S, env, P, q⟩ => ⟨S, env, P, q.imp fun d q v H' fp e hv _ hp => q v H' fp e hv fun a ha => .inr (hp a ha).1⟩
/-- what can't be changed is fresh -/
def eImm (f : En → R D) (env : En) : R D := f env >>= fun d => R.of (if imm d = true then some d else none)
theorem df_imm {e : Expr} {f : En → R D} (h : DE X W e f) : DF X W e (eImm f) := pe_weak h fun σ H Q ⟨S, env, P, q⟩ => by
  refine stE P q fun d v H' fp e hv hp q => ?_
  obtain ⟨d', e1, q⟩ := Out.of q
  split at e1
  · rename_i hi
    cases e1
    have hf := Val.imm d hv hi
    subst hf
    exact q v H' [] e hv List.nodup_nil (by simp)
  · cases e1

/-! ### arguments -/
def eNil (_ : En) : R (List D) := .ok []
def eCons (f : En → R D) (g : En → R (List D)) (env : En) : R (List D) := f env >>= fun d => g env >>= fun ds => .ok (d :: ds)
theorem da_nil : DA X W [] eNil := pa_weak pa_nil fun σ H Q ⟨S, env, P, q⟩ => q [] H [] (Sm.refl H) VAll.nil (by simp)
theorem da_cons {e : Expr} {es : List Expr} {f : En → R D} {g : En → R (List D)} (h : DE X W e f) (t : DA X W es g) (he : starEach (e :: es) X.env = (false, eval e X.env) :: starEach es X.env := by rfl) : DA X W (e :: es) (eCons f g) :=
  pa_weak (pa_cons h t he) fun σ H Q ⟨S, env, P, q⟩ => by
    refine stE P q fun d v H1 fp e hv hp q => stA (P.sm e) q fun ds vs H2 fq e2 hvs hq q => ?_
    exact q (v :: vs) H2 (fp ++ fq) (e.trans e2) (.cons (hv.sm e2) hvs) fun a ha => (List.mem_append.mp ha).elim (hp a) fun z => (hq a z).imp id fun z => e.back z

/-! ### two-place operations -/
def rD (K : PySem.W.Frag) (mg : Str → Option Value) (F : D → D → Option D) : R2 := fun x y H Q => ∃ dx dy fx fy, Val K mg H dx x fx ∧ Val K mg H dy y fy ∧ ∃ d, F dx dy = some d ∧
  ∀ v H' fp, Sm H H' → Val K mg H' d v fp → (∀ a ∈ fp, a ∈ fx ∨ a ∈ fy ∨ H a = none) → Q v H'
def eOp (F : D → D → Option D) (f g : En → R D) (env : En) : R D := f env >>= fun x => g env >>= fun y => R.of (F x y)
theorem st_op {F : D → D → Option D} {f g : En → R D} {K : PySem.W.Frag} {mg : Str → Option Value} {W : WX} {σ : L2.St} {H : Hp} {Q : VK} (h : tE K mg W (eOp F f g) σ H Q) : tOp (rD K mg F) (tE K mg W f) (tE K mg W g) σ H Q := by
  obtain ⟨S, env, P, q⟩ := h
  refine stE P q fun d v H1 fp e hv hp q => stE (P.sm e) q fun d2 v2 H2 fp2 e2 hv2 hp2 q => ?_
  obtain ⟨r, er, q⟩ := Out.of q
  exact ⟨d, d2, fp, fp2, hv.sm e2, hv2, r, er, fun z H3 f3 e3 h3 p3 => q z H3 f3 ((e.trans e2).trans e3) h3 fun a ha => by
    rcases p3 a ha with z | z | z
    · exact hp a z
    · exact (hp2 a z).imp id fun z => e.back z
    · exact .inr (e.back (e2.back z))⟩
theorem de_bin {F : D → D → Option D} {op : Operator} {a b : Expr} {pos : Pos} {f g : En → R D} (ho : OpR X (binaryOp op) (rD X.K X.mg F)) (ha : DE X W a f) (hb : DE X W b g) : DE X W (.BinOp a op b pos) (eOp F f g) :=
  pe_weak (pe_op ho ha hb) fun _ _ _ => st_op
theorem de_cmp {F : D → D → Option D} {op : CmpOp} {a b : Expr} {pos : Pos} {f g : En → R D} (ho : OpR X (compareOp op) (rD X.K X.mg F)) (ha : DE X W a f) (hb : DE X W b g)
    (hm : behindInMarks op b = false := by first | exact nomark _ | rfl | with_unfolding_all rfl) : DE X W (.Compare a [op] [b] pos) (eOp F f g) :=
  pe_weak (pe_cmpR ho ha hb hm) fun _ _ _ => st_op
/-- a value that is True or False -/
def asB : D → Option Bool
  | .bl b => some b
  | _ => none
def eB (f : En → R D) (env : En) : R Bool := f env >>= fun d => R.of (asB d)
theorem asB_val {K : PySem.W.Frag} {mg : Str → Option Value} {H : Hp} {d : D} {v : V} {fp : List Addr} {b : Bool} (h : Val K mg H d v fp) (e : asB d = some b) : v = .bl b := by
  cases d <;> simp [asB] at e
  subst e
  simp only [Val] at h
  exact h.1
theorem dt_cmp {F : D → D → Option D} {op : CmpOp} {a b : Expr} {pos : Pos} {f g : En → R D} (ho : OpR X (compareOp op) (rD X.K X.mg F)) (ha : DE X W a f) (hb : DE X W b g)
    (hm : behindInMarks op b = false := by first | exact nomark _ | rfl | with_unfolding_all rfl) : DT X W (.Compare a [op] [b] pos) (eB (eOp F f g)) :=
  pt_weak (pt_cmpR ho ha hb hm) fun σ H Q ⟨S, env, P, q⟩ => by
    refine st_op ⟨S, env, P, q.bind.imp fun d q v H' fp e hv _ => ?_⟩
    obtain ⟨b, e1, q⟩ := Out.of q
    exact ⟨b, asB_val hv e1, q H' e⟩
/-- a chain of two comparisons -/
def eCh (F G : D → D → Option D) (f g h : En → R D) (env : En) : R D := f env >>= fun x => g env >>= fun y => R.of (F x y) >>= fun c => R.of (asB c) >>= fun c => if c = true then h env >>= fun z => R.of (G y z) else .ok (.bl false)
theorem st_chain {F G : D → D → Option D} {f g h : En → R D} {K : PySem.W.Frag} {mg : Str → Option Value} {W : WX} {σ : L2.St} {H : Hp} {Q : VK} (hh : tE K mg W (eCh F G f g h) σ H Q) :
    tChain (rD K mg F) (rD K mg G) (tE K mg W f) (tE K mg W g) (tE K mg W h) σ H Q := by
  obtain ⟨S, env, P, q⟩ := hh
  refine stE P q fun d v H1 fp e hv hp q => stE (P.sm e) q fun d2 v2 H2 fp2 e2 hv2 hp2 q => ?_
  obtain ⟨r, er, q⟩ := Out.of q.bind
  obtain ⟨c, ec, q⟩ := Out.of q.bind
  refine ⟨d, d2, fp, fp2, hv.sm e2, hv2, r, er, fun z H3 f3 e3 h3 p3 => ⟨c, asB_val h3 ec, ?_⟩⟩
  cases c with
  | true =>
    simp only [if_true] at q ⊢
    refine stE ((P.sm (e.trans e2)).sm e3) (q.sm e3) fun d4 v4 H4 fp4 e4 hv4 hp4 q => ?_
    obtain ⟨r5, er5, q⟩ := Out.of q
    exact ⟨d2, d4, fp2, fp4, (hv2.sm e3).sm e4, hv4, r5, er5, fun z H5 f5 e5 h5 p5 => q z H5 f5 ((((e.trans e2).trans e3).trans e4).trans e5) h5 fun a ha => by
      rcases p5 a ha with z | z | z
      · exact (hp2 a z).imp id fun z => e.back z
      · exact (hp4 a z).imp id fun z => e.back (e2.back (e3.back z))
      · exact .inr (e.back (e2.back (e3.back (e4.back z))))⟩
  | false =>
    simp only [Bool.false_eq_true, if_false] at q ⊢
    exact q (.bl false) H3 [] ((e.trans e2).trans e3) (by simp [Val]) (by simp)
theorem de_chain {F G : D → D → Option D} {op op' : CmpOp} {a b c : Expr} {pos : Pos} {f g h : En → R D} (ho : OpR X (compareOp op) (rD X.K X.mg F)) (ho' : OpR X (compareOp op') (rD X.K X.mg G)) (ha : DE X W a f) (hb : DE X W b g) (hc : DE X W c h)
    (hm : lastMarks [op, op'] [b, c] = false := by with_unfolding_all rfl) : DE X W (.Compare a [op, op'] [b, c] pos) (eCh F G f g h) := pe_weak (pe_chain ho ho' ha hb hc hm) fun _ _ _ => st_chain
theorem dt_chain {F G : D → D → Option D} {op op' : CmpOp} {a b c : Expr} {pos : Pos} {f g h : En → R D} (ho : OpR X (compareOp op) (rD X.K X.mg F)) (ho' : OpR X (compareOp op') (rD X.K X.mg G)) (ha : DE X W a f) (hb : DE X W b g) (hc : DE X W c h)
    (hm : lastMarks [op, op'] [b, c] = false := by with_unfolding_all rfl) : DT X W (.Compare a [op, op'] [b, c] pos) (eB (eCh F G f g h)) :=
  pt_weak (pt_chain ho ho' ha hb hc hm) fun σ H Q ⟨S, env, P, q⟩ => by
    refine st_chain ⟨S, env, P, q.bind.imp fun d q v H' fp e hv _ => ?_⟩
    obtain ⟨b, e1, q⟩ := Out.of q
    exact ⟨b, asB_val hv e1, q H' e⟩
end
end DL
set_option Elab.async false
set_option linter.all false
set_option maxRecDepth 100000
set_option maxHeartbeats 2000000
namespace DL
open PySem PySem.Spec PyProof.Rows L2

/-! ### data that == looks at -/
mutual
def toPy : D → PyData
  | .non => .none
  | .bl b => .bool b
  | .int i => .int i
  | .str x => .str x
  | .tup xs => .tuple (toPyAll xs)
  | .kt xs => .tuple (toPyAll xs)
  | .lst xs => .list (toPyAll xs)
  | .fz xs => .list (toPyAll xs)
  | .ty _ => .none
  | .dk _ _ => .none
  | .dt _ _ => .none
  | .ins _ _ _ _ => .none
  | .fi _ _ _ => .none
  | .io _ _ => .none
  | .fl xs => .list (toPyAll xs)
def toPyAll : List D → List PyData
  | [] => []
  | x :: xs => toPy x :: toPyAll xs
end
mutual
/-- data without dicts, instances, types -/
def plain : D → Bool
  | .non => true
  | .bl _ => true
  | .int _ => true
  | .str _ => true
  | .tup xs => plainAll xs
  | .kt xs => plainAll xs
  | .lst xs => plainAll xs
  | .fz xs => plainAll xs
  | .ty _ => false
  | .dk _ _ => false
  | .dt _ _ => false
  | .ins _ _ _ _ => false
  | .fi _ _ _ => false
  | .io _ _ => false
  | .fl xs => plainAll xs
def plainAll : List D → Bool
  | [] => true
  | x :: xs => plain x && plainAll xs
end
def eqv (d e : D) : Bool := PyData.eqv (toPy d) (toPy e)
def okE (d : D) : Bool := plain d && SeqAt.shaped (toPy d)
def flat : D → Bool
  | .non => true
  | .bl _ => true
  | .int _ => true
  | .str _ => true
  | _ => false
section
variable {K : PySem.W.Frag} {mg : Str → Option Value} {H : Hp}
theorem KTup.sq {a : Addr} {xs : List V} (h : KTup K a xs) : SqT K H a xs := .inr h
mutual
theorem Val.dp : ∀ (d : D) {v : V} {fp : List Addr}, Val K mg H d v fp → plain d = true → Dp K H v (toPy d)
  | .non, v, fp, h, p => by simp only [Val] at h; rw [h.1, toPy]; exact .non
  | .bl b, v, fp, h, p => by simp only [Val] at h; rw [h.1, toPy]; exact .bl b
  | .int i, v, fp, h, p => by simp only [Val] at h; rw [h.1, toPy]; exact .int i
  | .str x, v, fp, h, p => by simp only [Val] at h; rw [h.1, toPy]; exact .str x
  | .ty n, v, fp, h, p => by simp [plain] at p
  | .tup ds, v, fp, h, p => by
    simp only [Val] at h
    obtain ⟨a, vs, e, t, q⟩ := h
    rw [e, toPy]
    exact .tup (.inl (.inl t)) (VAll.dp ds q (by simpa [plain] using p))
  | .kt ds, v, fp, h, p => by
    simp only [Val] at h
    obtain ⟨a, vs, e, t, q⟩ := h
    rw [e, toPy]
    exact .tup t.sq (VAll.dp ds q (by simpa [plain] using p))
  | .lst ds, v, fp, h, p => by
    simp only [Val] at h
    obtain ⟨a, vs, f, e, ef, t, q⟩ := h
    rw [e, toPy]
    exact .lst (.inl (.inl t)) (VAll.dp ds q (by simpa [plain] using p))
  | .fz ds, v, fp, h, p => by
    simp only [Val] at h
    obtain ⟨a, vs, e, t, q⟩ := h
    rw [e, toPy]
    exact .lst t.sq (VAll.dp ds q (by simpa [plain] using p))
  | .dk ks ds, v, fp, h, p => by simp [plain] at p
  | .dt ks ds, v, fp, h, p => by simp [plain] at p
  | .ins c id fs ds, v, fp, h, p => by simp [plain] at p
  | .fi c fs ds, v, fp, h, p => by simp [plain] at p
  | .io b s, v, fp, h, p => by simp [plain] at p
  | .fl ds, v, fp, h, p => by
    simp only [Val] at h
    obtain ⟨a, vs, o, e, t, q⟩ := h
    rw [e, toPy]
    exact .lst (.inl (.inr ⟨o, t⟩)) (VAll.dp ds q (by simpa [plain] using p))
theorem VAll.dp : ∀ (ds : List D) {vs : List V} {fp : List Addr}, VAll K mg H ds vs fp → plainAll ds = true → DpAll K H vs (toPyAll ds)
  | [], vs, fp, h, p => by simp only [VAll] at h; rw [h.1, toPyAll]; exact .nil
  | d :: ds, vs, fp, h, p => by
    simp only [VAll] at h
    obtain ⟨v, vr, f, g, e, ef, h1, h2⟩ := h
    have p' : plain d = true ∧ plainAll ds = true := by simpa [plainAll] using p
    rw [e, toPyAll]
    exact .cons (Val.dp d h1 p'.1) (VAll.dp ds h2 p'.2)
end
/-- a sequence's items: a list or a tuple of any kind -/
def items : D → Option (List D)
  | .tup xs => some xs
  | .kt xs => some xs
  | .lst xs => some xs
  | .fz xs => some xs
  | .fl xs => some xs
  | _ => none
theorem Val.seq {d : D} {v : V} {fp : List Addr} {ds : List D} (h : Val K mg H d v fp) (e : items d = Option.some ds) : ∃ a vs f, v = .ref a ∧ (SqL K H a vs ∨ SqT K H a vs) ∧ VAll K mg H ds vs f ∧ ∀ b ∈ f, b ∈ fp := by
  cases d <;> simp only [items, Option.some.injEq, reduceCtorEq] at e <;> subst e <;> simp only [Val] at h
  · obtain ⟨a, vs, e, t, q⟩ := h
    exact ⟨a, vs, fp, e, .inr (.inl (.inl t)), q, fun _ z => z⟩
  · obtain ⟨a, vs, f, e, ef, t, q⟩ := h
    exact ⟨a, vs, f, e, .inl (.inl (.inl t)), q, fun b z => by rw [ef]; exact List.mem_cons_of_mem _ z⟩
  · obtain ⟨a, vs, e, t, q⟩ := h
    exact ⟨a, vs, fp, e, .inl t.sq, q, fun _ z => z⟩
  · obtain ⟨a, vs, e, t, q⟩ := h
    exact ⟨a, vs, fp, e, .inr t.sq, q, fun _ z => z⟩
  · obtain ⟨a, vs, o, e, t, q⟩ := h
    exact ⟨a, vs, fp, e, .inl (.inl (.inr ⟨o, t⟩)), q, fun _ z => z⟩
end

/-! ### == and != -/
def fitE (d e : D) : Bool := (flat d && flat e) || (okE d && okE e)
def eqD (d e : D) : Option D := if fitE d e = true then some (.bl (eqv d e)) else none
def neD (d e : D) : Option D := if fitE d e = true then some (.bl (!eqv d e)) else none
section
variable {X : Cx}
theorem flat_eq {K : PySem.W.Frag} {mg : Str → Option Value} {H : Hp} {d e : D} {x y : V} {fx fy : List Addr} (hx : Val K mg H d x fx) (hy : Val K mg H e y fy) (h1 : flat d = true) (h2 : flat e = true) :
    (scal x y = true ∧ decide (x = y) = eqv d e) ∨ (okE d = true ∧ okE e = true) := by
  cases d <;> simp [flat] at h1 <;> cases e <;> simp [flat] at h2 <;> simp only [Val] at hx hy <;> obtain ⟨rfl, -⟩ := hx <;> obtain ⟨rfl, -⟩ := hy <;>
    first
      | exact .inl ⟨rfl, by simp [eqv, toPy, PyData.eqv, Bool.beq_eq_decide_eq]⟩
      | exact .inr ⟨by simp [okE, plain, toPy, SeqAt.shaped, PyData.canLay0, PyData.depth], by simp [okE, plain, toPy, SeqAt.shaped, PyData.canLay0, PyData.depth]⟩
theorem or_eq (hu : X.A.units + 64 < cLine) : OpR X (compareOp .Eq) (rD X.K X.mg eqD) := by
  intro pins s σ H x y v u Q I rx ry ⟨dx, dy, fx, fy, hx, hy, d, e, q⟩
  unfold eqD at e
  split at e
  · rename_i hf
    cases e
    have deep : okE dx = true → okE dy = true → wpAny (model X.prog X.w) X.A (compareOp .Eq v u) (EP X pins σ Q) X.xe s := fun h1 h2 => by
      simp only [okE, Bool.and_eq_true] at h1 h2
      exact op_eqD hu pins s σ H x y v u Q I rx ry ⟨toPy dx, toPy dy, hx.dp _ h1.1, hy.dp _ h2.1, h1.2, h2.2, q _ H [] (Sm.refl H) (by simp [Val, eqv]) (by simp)⟩
    simp only [fitE, Bool.or_eq_true, Bool.and_eq_true] at hf
    rcases hf with ⟨h1, h2⟩ | ⟨h1, h2⟩
    · rcases flat_eq hx hy h1 h2 with ⟨a, b⟩ | ⟨a, b⟩
      · exact op_eq pins s σ H x y v u Q I rx ry ⟨a, by rw [b]; exact q _ H [] (Sm.refl H) (by simp [Val]) (by simp)⟩
      · exact deep a b
    · exact deep h1 h2
  · cases e
theorem or_ne (hu : X.A.units + 64 < cLine) : OpR X (compareOp .NotEq) (rD X.K X.mg neD) := by
  intro pins s σ H x y v u Q I rx ry ⟨dx, dy, fx, fy, hx, hy, d, e, q⟩
  unfold neD at e
  split at e
  · rename_i hf
    cases e
    have deep : okE dx = true → okE dy = true → wpAny (model X.prog X.w) X.A (compareOp .NotEq v u) (EP X pins σ Q) X.xe s := fun h1 h2 => by
      simp only [okE, Bool.and_eq_true] at h1 h2
      exact op_neD hu pins s σ H x y v u Q I rx ry ⟨toPy dx, toPy dy, hx.dp _ h1.1, hy.dp _ h2.1, h1.2, h2.2, q _ H [] (Sm.refl H) (by simp [Val, eqv]) (by simp)⟩
    simp only [fitE, Bool.or_eq_true, Bool.and_eq_true] at hf
    rcases hf with ⟨h1, h2⟩ | ⟨h1, h2⟩
    · rcases flat_eq hx hy h1 h2 with ⟨a, b⟩ | ⟨a, b⟩
      · exact op_ne pins s σ H x y v u Q I rx ry ⟨a, by rw [b]; exact q _ H [] (Sm.refl H) (by simp [Val]) (by simp)⟩
      · exact deep a b
    · exact deep h1 h2
  · cases e

/-! ### is -/
/-- y is None, True or False -/
def isD (d e : D) : Option D := match e with
  | .non => some (.bl (match d with | .non => true | .io none _ => true | _ => false))
  | .bl b => match d with
    | .bl a => some (.bl (a == b))
    | _ => none
  | _ => none
def isnD (d e : D) : Option D := match e with
  | .non => some (.bl (match d with | .non => false | .io none _ => false | _ => true))
  | .bl b => match d with
    | .bl a => some (.bl (!(a == b)))
    | _ => none
  | _ => none
end
end DL
set_option Elab.async false
set_option linter.all false
set_option maxRecDepth 100000
set_option maxHeartbeats 2000000
namespace DL
open PySem PySem.Spec PyProof.Rows L2

/-! ### a tuple times a number, up to 100000 times -/
def rRepM (K : PySem.W.Frag) : R2 := fun x y H Q => ∃ l k xs, x = .ref l ∧ y = .int k ∧ H l = some (.tup xs) ∧ xs ≠ [] ∧ 2 ≤ k ∧ k ≤ 100000 ∧ xs.length ≤ 10 ∧ ∀ p, H p = none → Q (.ref p) (upd H p (.tup (List.replicate k.toNat xs).flatten))
theorem op_repM {X : Cx} : OpR X (binaryOp .Mult) (rRepM X.K) := by
  intro pins st ev Hp0 x y vx vy Q inv rx ry hyp
  obtain ⟨adr, k, elems, rfl, rfl, hT0, hne, k2, kmax, lmax, q⟩ := hyp
  have hT : SqT X.K Hp0 adr elems := SqT.of hT0
  cases rx
  obtain ⟨tk, rfl⟩ := ry
  obtain ⟨items, rel, ⟨⟨cl, dic, dat, slo⟩, hob, hcl, num, hda⟩, hsize⟩ := inv.tuple hT
  simp only at hcl hda
  subst hcl hda
  have heq : items.length = elems.length := rel.length.symm
  have hit : items ≠ [] := fun z => hne (List.eq_nil_of_length_eq_zero (by rw [z] at heq; exact heq.symm))
  have hemp : items.toArray.isEmpty = false := by
    cases items with
    | nil => exact absurd rfl hit
    | cons _ _ => rfl
  have hs0 : items.toArray.size = elems.length := by rw [List.size_toArray, heq]
  have hprod : ((items.toArray.size : Nat) : Int) * k ≤ 1000000 := by
    rw [hs0]
    have u1 : ((elems.length : Nat) : Int) * k ≤ 10 * k := Int.mul_le_mul_of_nonneg_right (by omega) (by omega)
    omega
  have u2 : k.toNat * elems.length ≤ 100000 * 10 := Nat.mul_le_mul (by omega) lmax
  have hlen : (List.replicate k.toNat items).flatten.length ≤ sizeLine := by rw [PyProof.Rows.lm_len_rep_flat, heq, sizeLine_eq]; omega
  have g0 : (decide (k < -(2 ^ 63)) || decide (k ≥ 2 ^ 63)) = false := by rw [decide_eq_false (by omega), decide_eq_false (by omega)] <;> rfl
  have g1 : (items.toArray.isEmpty || k == 1) = false := by rw [hemp, Bool.false_or]; exact beq_eq_false_iff_ne.mpr (by omega)
  have g2 : (decide (k ≤ 0) || items.toArray.isEmpty) = false := by rw [hemp, Bool.or_false]; exact decide_eq_false (by omega)
  have g4 : Builtin.Tuple.tupleTooMany (((items.toArray.size : Nat) : Int) * k) = false := by unfold Builtin.Tuple.tupleTooMany; rw [sizeLine_eq]; exact decide_eq_false (by omega)
  refine wpAny_binaryOp_repeat_ref (T := "tuple") (U := "int") (by decide) ⟨_, hob, rfl⟩ (fun st' => typeIs_int st' k tk) noFill_tuple_mul F.fills_int_mul F.slot_int_rmul repeat_tuple F.slot_int_index.lookup
    (call_meets F.slot_int_rmul (typeIs_int st k tk) F.entry_int_rmul (F.args_int_rmul_2 _ _) (int_rmul_tuple k tk adr items.toArray num dic slo)
      ⟨hob, rfl, ⟨_, hob, rfl⟩, call_meets F.slot_tuple_mul ⟨_, hob, rfl⟩ F.entry_tuple_mul (F.args_tuple_mul_2 _ _) (tuple_mulW adr items.toArray num dic slo k tk g0 g1 g2 (by omega) g4 (by rw [size_rep, List.size_toArray]; exact hlen)) ⟨hob, ?_⟩⟩)
  rw [size_rep]
  refine ⟨.ref st.heap.objs.size, _, inv.laid (t' := st.toks) (o := .tup (List.replicate k.toNat elems).flatten) (fun b ob qq => Heap.get?_push_of_some _ qq) (Nat.le_refl _) ?_, rfl, q _ (inv.hok.fresh (Nat.le_refl _))⟩
  exact ⟨by rw [PyProof.Rows.lm_len_rep_flat, sizeLine_eq]; omega, _, rel.rep k.toNat, IsTup.new _ _⟩

/-! ### arithmetic -/
def addD : D → D → Option D
  | .int i, .int j => some (.int (i + j))
  | .str a, .str b => if a.length + b.length ≤ sizeLine then some (.str (a ++ b)) else none
  | .lst xs, .lst ys => if xs.length + ys.length ≤ sizeLine then some (.lst (xs ++ ys)) else none
  | .tup xs, .tup ys => if xs.length + ys.length ≤ sizeLine then some (.tup (xs ++ ys)) else none
  | .fl xs, .lst ys => if xs.length + ys.length ≤ sizeLine then some (.lst (xs ++ ys)) else none
  | _, _ => none
def subD : D → D → Option D
  | .int i, .int j => some (.int (i - j))
  | _, _ => none
def fitMul (i j : Int) : Bool := (decide (-(2 ^ 64) < i) && decide (i < 2 ^ 64)) || (decide (-(2 ^ 64) < j) && decide (j < 2 ^ 64))
def mulD : D → D → Option D
  | .int i, .int j => if fitMul i j = true then some (.int (i * j)) else none
  | .lst xs, .int k => if -(2 ^ 63) ≤ k ∧ k < 2 ^ 63 ∧ xs.length * k.toNat ≤ sizeLine ∧ immAll xs = true then some (.lst (List.replicate k.toNat xs).flatten) else none
  | .tup xs, .int k => if xs.isEmpty = false ∧ 2 ≤ k ∧ k ≤ 100000 ∧ xs.length ≤ 10 ∧ immAll xs = true then some (.tup (List.replicate k.toNat xs).flatten) else none
  | _, _ => none
def fdivD : D → D → Option D
  | .int i, .int j => if 0 < j ∧ j < 1073741824 then some (.int (i / j)) else none
  | _, _ => none
def modD : D → D → Option D
  | .int i, .int j => if 0 < j then some (.int (i % j)) else none
  | _, _ => none
def powD : D → D → Option D
  | .int i, .int j => if 0 ≤ j ∧ j ≤ 1000000 ∧ i.natAbs < 2 ^ 64 then some (.int (i ^ j.toNat)) else none
  | _, _ => none
section
variable {K : PySem.W.Frag} {mg : Str → Option Value} {H : Hp}
theorem val_int {i : Int} : Val K mg H (.int i) (.int i) [] := by simp [Val]
theorem val_bl {b : Bool} : Val K mg H (.bl b) (.bl b) [] := by simp [Val]
theorem val_str {x : Str} : Val K mg H (.str x) (.str x) [] := by simp [Val]
theorem val_non : Val K mg H .non .non [] := by simp [Val]
theorem nf {P : Addr → Prop} : ∀ a ∈ ([] : List Addr), P a := fun _ h => nomatch h
theorem val_tup {a : Addr} {ds : List D} {vs : List V} {f : List Addr} (h : H a = some (.tup vs)) (q : VAll K mg H ds vs f) : Val K mg H (.tup ds) (.ref a) f := by
  simp only [Val]; exact ⟨a, vs, rfl, h, q⟩
theorem val_lst {a : Addr} {ds : List D} {vs : List V} {f : List Addr} (h : H a = some (.lst vs)) (q : VAll K mg H ds vs f) : Val K mg H (.lst ds) (.ref a) (a :: f) := by
  simp only [Val]; exact ⟨a, vs, f, rfl, rfl, h, q⟩
theorem imm_replicate {xs : List D} (h : immAll xs = true) : ∀ n, immAll (List.replicate n xs).flatten = true
  | 0 => rfl
  | n + 1 => by
    have app : ∀ (as bs : List D), immAll as = true → immAll bs = true → immAll (as ++ bs) = true := by
      intro as bs ha hb
      induction as with
      | nil => exact hb
      | cons d ds ih =>
        simp only [immAll, Bool.and_eq_true, List.cons_append] at ha ⊢
        exact ⟨ha.1, ih ha.2⟩
    rw [List.replicate_succ, List.flatten_cons]
    exact app _ _ h (imm_replicate h n)
theorem VAll.rep {xs : List D} {vs : List V} (h : VAll K mg H xs vs []) : ∀ n, VAll K mg H (List.replicate n xs).flatten (List.replicate n vs).flatten []
  | 0 => VAll.nil
  | n + 1 => by
    rw [List.replicate_succ, List.flatten_cons, List.replicate_succ, List.flatten_cons]
    exact VAll.append h (VAll.rep h n)
end
section
variable {X : Cx}
/-- a list held fast and a list -/
theorem op_catF : OpR X (binaryOp .Add) (fun x y H Q => ∃ l o b xs zs, x = .ref l ∧ y = .ref b ∧ H l = some (.frz o (.lst xs)) ∧ H b = some (.lst zs) ∧ xs.length + zs.length ≤ sizeLine ∧ ∀ p, H p = none → Q (.ref p) (upd H p (.lst (xs ++ zs)))) := by
  intro pins s σ H x y v u Q I rx ry ⟨l, o, b, xs, zs, e1, e2, hF, hB, hz, q⟩
  subst e1; subst e2
  cases rx; cases ry
  obtain ⟨_, z1, its, n, r1, g1⟩ := (show ObjOk X.prog X.w H s.heap l (.frz o (.lst xs)) from I.hok l _ hF)
  obtain ⟨z2, its2, n2, r2, w2, g2⟩ := I.lstM hB
  have w1 := r1.length
  refine PySem.P.add_list g1 g2 ?_ (by rw [List.size_toArray, List.size_toArray]; omega)
  rw [show its.toArray ++ its2.toArray = (its ++ its2).toArray by simp]
  exact ⟨.ref _, _, I.lnew (t' := s.toks) (r1.append r2) (by rw [List.length_append]; omega), rfl, q _ I.fresh⟩
theorem or_add : OpR X (binaryOp .Add) (rD X.K X.mg addD) := by
  intro pins s σ H x y v u Q I rx ry ⟨dx, dy, fx, fy, hx, hy, d, e, q⟩
  unfold addD at e
  split at e
  · cases e
    simp only [Val] at hx hy
    exact op_add pins s σ H x y v u Q I rx ry ⟨_, _, hx.1, hy.1, q _ H [] (Sm.refl H) val_int nf⟩
  · split at e
    · cases e
      rename_i hz
      simp only [Val] at hx hy
      exact op_add_str pins s σ H x y v u Q I rx ry ⟨_, _, hx.1, hy.1, hz, q _ H [] (Sm.refl H) val_str nf⟩
    · cases e
  · split at e
    · cases e
      rename_i hz
      simp only [Val] at hx hy
      obtain ⟨a, vs, f, e1, e2, h1, h2⟩ := hx
      obtain ⟨b, us, g, e3, e4, h3, h4⟩ := hy
      refine op_cat pins s σ H x y v u Q I rx ry ⟨a, b, vs, us, e1, e3, h1, h3, by rw [h2.length, h4.length]; exact hz, fun p hp => ?_⟩
      refine q _ _ _ (Sm.new hp) (val_lst upd_same ((h2.append h4).sm (Sm.new hp))) fun c hc => ?_
      rcases List.mem_cons.mp hc with z | z
      · exact .inr (.inr (z ▸ hp))
      · rcases List.mem_append.mp z with z | z
        · exact .inl (by rw [e2]; exact List.mem_cons_of_mem _ z)
        · exact .inr (.inl (by rw [e4]; exact List.mem_cons_of_mem _ z))
    · cases e
  · split at e
    · cases e
      rename_i hz
      simp only [Val] at hx hy
      obtain ⟨a, vs, e1, h1, h2⟩ := hx
      obtain ⟨b, us, e3, h3, h4⟩ := hy
      have all := h2.append h4
      refine op_catA pins s σ H x y v u Q I rx ry ⟨a, b, vs, us, e1, e3, .inl (.inl h1), .inl (.inl h3), by rw [h2.length, h4.length]; exact hz, fun e0 => ?_, fun _ e0 => ?_, fun _ _ p hp => ?_⟩
      · subst e0
        exact q _ H _ (Sm.refl H) (val_tup h3 (by simpa using all)) fun c hc => by
          rcases List.mem_append.mp hc with z | z
          · exact .inl z
          · exact .inr (.inl z)
      · subst e0
        exact q _ H _ (Sm.refl H) (val_tup h1 (by simpa using all)) fun c hc => by
          rcases List.mem_append.mp hc with z | z
          · exact .inl z
          · exact .inr (.inl z)
      · exact q _ _ _ (Sm.new hp) (val_tup upd_same (all.sm (Sm.new hp))) fun c hc => by
          rcases List.mem_append.mp hc with z | z
          · exact .inl z
          · exact .inr (.inl z)
    · cases e
  · split at e
    · cases e
      rename_i hz
      simp only [Val] at hx hy
      obtain ⟨a, vs, o, e1, h1, h2⟩ := hx
      obtain ⟨b, us, g, e3, e4, h3, h4⟩ := hy
      refine op_catF pins s σ H x y v u Q I rx ry ⟨a, o, b, vs, us, e1, e3, h1, h3, by rw [h2.length, h4.length]; exact hz, fun p hp => ?_⟩
      refine q _ _ _ (Sm.new hp) (val_lst upd_same ((h2.append h4).sm (Sm.new hp))) fun c hc => ?_
      rcases List.mem_cons.mp hc with z | z
      · exact .inr (.inr (z ▸ hp))
      · rcases List.mem_append.mp z with z | z
        · exact .inl z
        · exact .inr (.inl (by rw [e4]; exact List.mem_cons_of_mem _ z))
    · cases e
  · cases e
theorem or_sub : OpR X (binaryOp .Sub) (rD X.K X.mg subD) := by
  intro pins s σ H x y v u Q I rx ry ⟨dx, dy, fx, fy, hx, hy, d, e, q⟩
  unfold subD at e
  split at e
  · cases e
    simp only [Val] at hx hy
    exact op_sub pins s σ H x y v u Q I rx ry ⟨_, _, hx.1, hy.1, q _ H [] (Sm.refl H) val_int nf⟩
  · cases e
theorem or_mul : OpR X (binaryOp .Mult) (rD X.K X.mg mulD) := by
  intro pins s σ H x y v u Q I rx ry ⟨dx, dy, fx, fy, hx, hy, d, e, q⟩
  unfold mulD at e
  split at e
  · split at e
    · rename_i hz
      cases e
      simp only [Val] at hx hy
      exact op_mul pins s σ H x y v u Q I rx ry ⟨_, _, hx.1, hy.1, by simpa [CMul, fitMul] using hz, q _ H [] (Sm.refl H) val_int nf⟩
    · cases e
  · split at e
    · rename_i hz
      cases e
      obtain ⟨z1, z2, z3, z4⟩ := hz
      simp only [Val] at hx hy
      obtain ⟨a, vs, f, e1, e2, h1, h2⟩ := hx
      have hf := VAll.imm _ h2 z4
      subst hf
      refine op_rep pins s σ H x y v u Q I rx ry ⟨a, _, vs, e1, hy.1, h1, z1, z2, by rw [h2.length]; exact z3, fun p hp => ?_⟩
      refine q _ _ _ (Sm.new hp) (val_lst upd_same ((VAll.rep h2 _).sm (Sm.new hp))) fun c hc => ?_
      rcases List.mem_cons.mp hc with z | z
      · exact .inr (.inr (z ▸ hp))
      · cases z
    · cases e
  · split at e
    · rename_i hz
      cases e
      obtain ⟨z0, z1, z2, z3, z4⟩ := hz
      simp only [Val] at hx hy
      obtain ⟨a, vs, e1, h1, h2⟩ := hx
      have hf := VAll.imm _ h2 z4
      subst hf
      refine op_repM pins s σ H x y v u Q I rx ry ⟨a, _, vs, e1, hy.1, h1, fun w => ?_, z1, z2, by rw [h2.length]; exact z3, fun p hp => ?_⟩
      · rw [w] at h2
        have := h2.length
        simp at this
        rw [List.length_eq_zero_iff.mp this.symm] at z0
        exact nomatch z0
      · exact q _ _ _ (Sm.new hp) (val_tup upd_same ((VAll.rep h2 _).sm (Sm.new hp))) nf
    · cases e
  · cases e
theorem or_fdiv : OpR X (binaryOp .FloorDiv) (rD X.K X.mg fdivD) := by
  intro pins s σ H x y v u Q I rx ry ⟨dx, dy, fx, fy, hx, hy, d, e, q⟩
  unfold fdivD at e
  split at e
  · split at e
    · rename_i hz
      cases e
      simp only [Val] at hx hy
      exact op_fdiv pins s σ H x y v u Q I rx ry ⟨_, _, hx.1, hy.1, hz, q _ H [] (Sm.refl H) val_int nf⟩
    · cases e
  · cases e
theorem or_mod : OpR X (binaryOp .Mod) (rD X.K X.mg modD) := by
  intro pins s σ H x y v u Q I rx ry ⟨dx, dy, fx, fy, hx, hy, d, e, q⟩
  unfold modD at e
  split at e
  · split at e
    · rename_i hz
      cases e
      simp only [Val] at hx hy
      exact op_mod pins s σ H x y v u Q I rx ry ⟨_, _, hx.1, hy.1, hz, q _ H [] (Sm.refl H) val_int nf⟩
    · cases e
  · cases e
theorem or_pow : OpR X (binaryOp .Pow) (rD X.K X.mg powD) := by
  intro pins s σ H x y v u Q I rx ry ⟨dx, dy, fx, fy, hx, hy, d, e, q⟩
  unfold powD at e
  split at e
  · split at e
    · rename_i hz
      cases e
      simp only [Val] at hx hy
      exact op_pow pins s σ H x y v u Q I rx ry ⟨_, _, hx.1, hy.1, hz, q _ H [] (Sm.refl H) val_int nf⟩
    · cases e
  · cases e
end

/-! ### order -/
def intsD : List D → Option (List Int)
  | [] => some []
  | .int i :: r => (intsD r).map (i :: ·)
  | _ :: _ => none
def ltD : D → D → Option D
  | .int i, .int j => some (.bl (decide (i < j)))
  | .str i, .str j => some (.bl (decide (i.cps.toList < j.cps.toList)))
  | .tup xs, .tup ys => match intsD xs, intsD ys with
    | some ns, some ms => some (.bl (HT.lexLt ns ms))
    | _, _ => none
  | _, _ => none
def gtD : D → D → Option D
  | .int i, .int j => some (.bl (decide (j < i)))
  | _, _ => none
def leD : D → D → Option D
  | .int i, .int j => some (.bl (decide (i ≤ j)))
  | _, _ => none
def geD : D → D → Option D
  | .int i, .int j => some (.bl (decide (j ≤ i)))
  | _, _ => none
theorem VAll.intsD {K : PySem.W.Frag} {mg : Str → Option Value} {H : Hp} : ∀ {ds : List D} {vs : List V} {f : List Addr} {ns : List Int}, VAll K mg H ds vs f → DL.intsD ds = some ns → vs = ns.map V.int
  | [], vs, f, ns, h, e => by
    simp only [VAll] at h
    simp only [DL.intsD, Option.some.injEq] at e
    rw [h.1, ← e]; rfl
  | d :: ds, vs, f, ns, h, e => by
    simp only [VAll] at h
    obtain ⟨v, vr, f1, g, ev, ef, h1, h2⟩ := h
    cases d <;> simp only [DL.intsD, reduceCtorEq, Option.map_eq_some_iff] at e
    obtain ⟨ms, e1, e2⟩ := e
    simp only [Val] at h1
    rw [ev, ← e2, h1.1, VAll.intsD h2 e1]; rfl
section
variable {X : Cx}
theorem or_lt (hu : X.A.units < cLine) : OpR X (compareOp .Lt) (rD X.K X.mg ltD) := by
  intro pins s σ H x y v u Q I rx ry ⟨dx, dy, fx, fy, hx, hy, d, e, q⟩
  unfold ltD at e
  split at e
  · cases e
    simp only [Val] at hx hy
    exact op_lt pins s σ H x y v u Q I rx ry ⟨_, _, hx.1, hy.1, q _ H [] (Sm.refl H) val_bl nf⟩
  · cases e
    simp only [Val] at hx hy
    exact op_lt_str pins s σ H x y v u Q I rx ry ⟨_, _, hx.1, hy.1, q _ H [] (Sm.refl H) val_bl nf⟩
  · split at e
    · rename_i ns ms e1 e2
      cases e
      simp only [Val] at hx hy
      obtain ⟨a, vs, q1, h1, h2⟩ := hx
      obtain ⟨b, us, q3, h3, h4⟩ := hy
      have z1 := VAll.intsD h2 e1
      have z2 := VAll.intsD h4 e2
      subst z1 z2
      exact op_ltT hu pins s σ H x y v u Q I rx ry ⟨a, b, ns, ms, q1, q3, .inl (.inl h1), .inl (.inl h3), q _ H [] (Sm.refl H) val_bl nf⟩
    · cases e
  · cases e
theorem or_gt : OpR X (compareOp .Gt) (rD X.K X.mg gtD) := by
  intro pins s σ H x y v u Q I rx ry ⟨dx, dy, fx, fy, hx, hy, d, e, q⟩
  unfold gtD at e
  split at e
  · cases e
    simp only [Val] at hx hy
    exact op_gt pins s σ H x y v u Q I rx ry ⟨_, _, hx.1, hy.1, q _ H [] (Sm.refl H) val_bl nf⟩
  · cases e
theorem or_le : OpR X (compareOp .LtE) (rD X.K X.mg leD) := by
  intro pins s σ H x y v u Q I rx ry ⟨dx, dy, fx, fy, hx, hy, d, e, q⟩
  unfold leD at e
  split at e
  · cases e
    simp only [Val] at hx hy
    exact op_le pins s σ H x y v u Q I rx ry ⟨_, _, hx.1, hy.1, q _ H [] (Sm.refl H) val_bl nf⟩
  · cases e
theorem or_ge : OpR X (compareOp .GtE) (rD X.K X.mg geD) := by
  intro pins s σ H x y v u Q I rx ry ⟨dx, dy, fx, fy, hx, hy, d, e, q⟩
  unfold geD at e
  split at e
  · cases e
    simp only [Val] at hx hy
    exact op_ge pins s σ H x y v u Q I rx ry ⟨_, _, hx.1, hy.1, q _ H [] (Sm.refl H) val_bl nf⟩
  · cases e
theorem or_is : OpR X (compareOp .Is) (rD X.K X.mg isD) := by
  intro pins s σ H x y v u Q I rx ry ⟨dx, dy, fx, fy, hx, hy, d, e, q⟩
  unfold isD at e
  split at e
  · cases e
    simp only [Val] at hy
    refine op_isN pins s σ H x y v u Q I rx ry ⟨hy.1, ?_⟩
    refine q _ H [] (Sm.refl H) ?_ nf
    cases dx <;> simp only [Val] at hx
    case non => simp [Val, hx.1]
    case bl => simp [Val, hx.1]
    case int => simp [Val, hx.1]
    case str => simp [Val, hx.1]
    case ty => simp [Val, hx.1]
    case tup => obtain ⟨a, vs, q1, _⟩ := hx; simp [Val, q1]
    case lst => obtain ⟨a, vs, f, q1, _⟩ := hx; simp [Val, q1]
    case fz => obtain ⟨a, vs, q1, _⟩ := hx; simp [Val, q1]
    case kt => obtain ⟨a, vs, q1, _⟩ := hx; simp [Val, q1]
    case dk => obtain ⟨a, vs, f, q1, _⟩ := hx; simp [Val, q1]
    case dt => obtain ⟨a, vs, f, q1, _⟩ := hx; simp [Val, q1]
    case ins => obtain ⟨a, C, dx, vs, f, q1, _⟩ := hx; simp [Val, q1]
    case fi => obtain ⟨a, C, dx, vs, o, q1, _⟩ := hx; simp [Val, q1]
    case io b s => obtain ⟨q1, _⟩ := hx; cases b <;> simp [Val, q1, ioV]
    case fl => obtain ⟨a, vs, o, q1, _⟩ := hx; simp [Val, q1]
  · split at e
    · cases e
      simp only [Val] at hx hy
      exact op_is_bl pins s σ H x y v u Q I rx ry ⟨_, _, hx.1, hy.1, q _ H [] (Sm.refl H) (by simp [Val, Bool.beq_eq_decide_eq]) nf⟩
    · cases e
  · cases e
theorem or_isn : OpR X (compareOp .IsNot) (rD X.K X.mg isnD) := by
  intro pins s σ H x y v u Q I rx ry ⟨dx, dy, fx, fy, hx, hy, d, e, q⟩
  unfold isnD at e
  split at e
  · cases e
    simp only [Val] at hy
    refine op_notN pins s σ H x y v u Q I rx ry ⟨hy.1, ?_⟩
    refine q _ H [] (Sm.refl H) ?_ nf
    cases dx <;> simp only [Val] at hx
    case non => simp [Val, hx.1]
    case bl => simp [Val, hx.1]
    case int => simp [Val, hx.1]
    case str => simp [Val, hx.1]
    case ty => simp [Val, hx.1]
    case tup => obtain ⟨a, vs, q1, _⟩ := hx; simp [Val, q1]
    case lst => obtain ⟨a, vs, f, q1, _⟩ := hx; simp [Val, q1]
    case fz => obtain ⟨a, vs, q1, _⟩ := hx; simp [Val, q1]
    case kt => obtain ⟨a, vs, q1, _⟩ := hx; simp [Val, q1]
    case dk => obtain ⟨a, vs, f, q1, _⟩ := hx; simp [Val, q1]
    case dt => obtain ⟨a, vs, f, q1, _⟩ := hx; simp [Val, q1]
    case ins => obtain ⟨a, C, dx, vs, f, q1, _⟩ := hx; simp [Val, q1]
    case fi => obtain ⟨a, C, dx, vs, o, q1, _⟩ := hx; simp [Val, q1]
    case io b s => obtain ⟨q1, _⟩ := hx; cases b <;> simp [Val, q1, ioV]
    case fl => obtain ⟨a, vs, o, q1, _⟩ := hx; simp [Val, q1]
  · split at e
    · cases e
      simp only [Val] at hx hy
      exact op_isnot_bl pins s σ H x y v u Q I rx ry ⟨_, _, hx.1, hy.1, q _ H [] (Sm.refl H) (by simp [Val, Bool.beq_eq_decide_eq]) nf⟩
    · cases e
  · cases e
end
end DL
set_option Elab.async false
set_option linter.all false
set_option maxRecDepth 100000
set_option maxHeartbeats 2000000
namespace DL
open PySem PySem.Spec PyProof.Rows L2

/-! ### dicts -/
def keyOf : D → Option Key
  | .int i => some (.inl i)
  | .str x => some (.inr x)
  | _ => none
def keysAll : List D → Option (List Key)
  | [] => some []
  | d :: r => (keyOf d).bind fun k => (keysAll r).map (k :: ·)
def keysOf : D → Option (List Key)
  | .tup xs => keysAll xs
  | _ => none
section
variable {κ : Type} [DecidableEq κ]
def dlook : List κ → List D → κ → Option D
  | k' :: ks, x :: xs, k => if k' = k then some x else dlook ks xs k
  | _, _, _ => none
variable {K : PySem.W.Frag} {mg : Str → Option Value} {H : Hp}
theorem dlook_some : ∀ {kvs : List (κ × V)} {ds : List D} {f : List Addr} {k : κ} {d : D}, VAll K mg H ds (kvs.map (·.2)) f → dlook (kvs.map (·.1)) ds k = some d → ∃ v g, valV kvs k = some v ∧ Val K mg H d v g ∧ ∀ a ∈ g, a ∈ f
  | [], ds, f, k, d, h, e => by cases ds <;> simp [dlook] at e
  | p :: kvs, [], f, k, d, h, e => by simp [dlook] at e
  | p :: kvs, x :: ds, f, k, d, h, e => by
    simp only [List.map_cons, VAll] at h
    obtain ⟨v, vr, f1, g1, ev, ef, h1, h2⟩ := h
    simp only [List.cons.injEq] at ev
    simp only [List.map_cons, dlook] at e
    split at e
    · rename_i hk
      cases e
      exact ⟨p.2, f1, valV_pos hk, by rw [ev.1]; exact h1, fun a ha => by rw [ef]; exact List.mem_append_left _ ha⟩
    · rename_i hk
      obtain ⟨u, g, q1, q2, q3⟩ := dlook_some (kvs := kvs) (by rw [ev.2]; exact h2) e
      exact ⟨u, g, by rw [valV_neg hk]; exact q1, q2, fun a ha => by rw [ef]; exact List.mem_append_right _ (q3 a ha)⟩
theorem dlook_none : ∀ {kvs : List (κ × V)} {ds : List D} {f : List Addr} {k : κ}, VAll K mg H ds (kvs.map (·.2)) f → dlook (kvs.map (·.1)) ds k = none → valV kvs k = none
  | [], ds, f, k, h, e => rfl
  | p :: kvs, [], f, k, h, e => by simp only [List.map_cons, VAll] at h; exact absurd h.1 (by simp)
  | p :: kvs, x :: ds, f, k, h, e => by
    simp only [List.map_cons, VAll] at h
    obtain ⟨v, vr, f1, g1, ev, ef, h1, h2⟩ := h
    simp only [List.cons.injEq] at ev
    simp only [List.map_cons, dlook] at e
    split at e
    · cases e
    · rename_i hk
      rw [valV_neg hk]
      exact dlook_none (kvs := kvs) (by rw [ev.2]; exact h2) e
def hasK (ks : List κ) (k : κ) : Bool := ks.any fun k' => decide (k' = k)
theorem valV_mem (kvs : List (κ × V)) (k : κ) : (valV kvs k).isSome = hasK (kvs.map (·.1)) k := by
  rw [← valV_any, hasK, List.any_map]; rfl
end
section
variable {K : PySem.W.Frag} {mg : Str → Option Value} {H : Hp}
theorem Val.key {d : D} {v : V} {f : List Addr} {k : Key} (h : Val K mg H d v f) (e : keyOf d = some k) : v = kV k := by
  cases d <;> simp [keyOf] at e <;> subst e <;> simp only [Val] at h <;> exact h.1
theorem VAll.keys : ∀ {ds : List D} {vs : List V} {f : List Addr} {ks : List Key}, VAll K mg H ds vs f → keysAll ds = some ks → vs = ks.map kV
  | [], vs, f, ks, h, e => by
    simp only [VAll] at h
    simp only [keysAll, Option.some.injEq] at e
    rw [h.1, ← e]; rfl
  | d :: ds, vs, f, ks, h, e => by
    simp only [VAll] at h
    obtain ⟨v, vr, f1, g, ev, ef, h1, h2⟩ := h
    simp only [keysAll, Option.bind_eq_some_iff, Option.map_eq_some_iff] at e
    obtain ⟨k, e1, r, e2, e3⟩ := e
    rw [ev, ← e3, Val.key h1 e1, VAll.keys h2 e2]; rfl
theorem Val.keys {d : D} {v : V} {f : List Addr} {ks : List Key} (h : Val K mg H d v f) (e : keysOf d = some ks) : ∃ b, v = .ref b ∧ H b = some (.tup (ks.map kV)) := by
  cases d <;> simp [keysOf] at e
  simp only [Val] at h
  obtain ⟨a, vs, q1, q2, q3⟩ := h
  exact ⟨a, q1, by rw [q2, VAll.keys q3 e]⟩
end

/-! ### in -/
def inB (x c : D) : Option Bool := match c with
  | .dk ks _ => (keyOf x).map fun k => hasK ks k
  | .dt ks _ => (keysOf x).map fun k => hasK ks k
  | .str z => match x with
    | .str y => match y.cps.toList with
      | [c] => some (decide (c ∈ z.cps.toList))
      | _ => none
    | _ => none
  | c => match items c with
    | some xs => if okE x = true ∧ okE c = true then some (xs.any fun z => eqv z x) else none
    | none => none
def inD (x c : D) : Option D := (inB x c).map .bl
def ninD (x c : D) : Option D := (inB x c).map fun b => .bl (!b)
theorem toPyAll_map : ∀ xs : List D, toPyAll xs = xs.map toPy
  | [] => rfl
  | x :: xs => by rw [toPyAll, toPyAll_map xs]; rfl
section
variable {X : Cx}
theorem str_one {y : Str} {c : Nat} (h : y.cps.toList = [c]) : y = ⟨#[c]⟩ := by
  cases y with
  | mk a => simp only at h; congr 1; exact Array.toList_inj.mp (by rw [h])
theorem in_cases {K : PySem.W.Frag} {mg : Str → Option Value} {H : Hp} {dx dy : D} {x y : V} {fx fy : List Addr} {b : Bool} (hx : Val K mg H dx x fx) (hy : Val K mg H dy y fy) (e : inB dx dy = some b) :
    (∃ a o, y = .ref a ∧ DGet H a x o ∧ o.isSome = b) ∨ (∃ (c : Nat) (z : Str), x = .str ⟨#[c]⟩ ∧ y = .str z ∧ b = decide (c ∈ z.cps.toList)) ∨
    (∃ d ds, Dp K H x d ∧ (Dp K H y (.list ds) ∨ Dp K H y (.tuple ds)) ∧ SeqAt.shaped d = true ∧ PyData.canLayAll0 ds = true ∧ b = ds.any fun z => PyData.eqv z d) := by
  have seq : ∀ xs, items dy = some xs → okE dx = true ∧ okE dy = true → b = xs.any (fun z => eqv z dx) → (∃ a o, y = V.ref a ∧ DGet H a x o ∧ o.isSome = b) ∨ (∃ (c : Nat) (z : Str), x = .str ⟨#[c]⟩ ∧ y = .str z ∧ b = decide (c ∈ z.cps.toList)) ∨
    (∃ d ds, Dp K H x d ∧ (Dp K H y (.list ds) ∨ Dp K H y (.tuple ds)) ∧ SeqAt.shaped d = true ∧ PyData.canLayAll0 ds = true ∧ b = ds.any fun z => PyData.eqv z d) := fun xs hi ok hb => by
    refine Or.inr (Or.inr ⟨toPy dx, toPyAll xs, hx.dp _ (by simp only [okE, Bool.and_eq_true] at ok; exact ok.1.1), ?_, by simp only [okE, Bool.and_eq_true] at ok; exact ok.1.2, ?_, ?_⟩)
    · have p : plain dy = true := by simp only [okE, Bool.and_eq_true] at ok; exact ok.2.1
      have q := hy.dp _ p
      cases dy <;> simp only [items, Option.some.injEq, reduceCtorEq] at hi <;> subst hi <;> simp only [toPy] at q <;> first | exact .inl q | exact .inr q
    · have p : SeqAt.shaped (toPy dy) = true := by simp only [okE, Bool.and_eq_true] at ok; exact ok.2.2
      have q := SeqAt.canLay_of_shaped p
      cases dy <;> simp only [items, Option.some.injEq, reduceCtorEq] at hi <;> subst hi <;> simpa [toPy, PyData.canLay0] using q
    · rw [hb, toPyAll_map, List.any_map]; rfl
  unfold inB at e
  split at e
  · simp only [Option.map_eq_some_iff] at e
    obtain ⟨k, e1, e2⟩ := e
    simp only [Val] at hy
    obtain ⟨a, kvs, f, q1, q2, q3, q4, q5⟩ := hy
    refine .inl ⟨a, valV kvs k, q1, .inl ⟨kvs, k, q3, Val.key hx e1, rfl⟩, ?_⟩
    rw [valV_mem, q4, ← e2]
  · simp only [Option.map_eq_some_iff] at e
    obtain ⟨k, e1, e2⟩ := e
    simp only [Val] at hy
    obtain ⟨a, kvs, f, q1, q2, q3, q4, q5⟩ := hy
    obtain ⟨b', h1, h2⟩ := Val.keys hx e1
    refine .inl ⟨a, valV kvs k, q1, .inr ⟨kvs, k, b', q3, h1, h2, rfl⟩, ?_⟩
    rw [valV_mem, q4, ← e2]
  · split at e
    · split at e
      · rename_i c hc
        cases e
        simp only [Val] at hx hy
        exact .inr (.inl ⟨c, _, by rw [hx.1, str_one hc], hy.1, rfl⟩)
      · cases e
    · cases e
  · split at e
    · rename_i xs hi
      split at e
      · rename_i ok
        cases e
        exact seq xs hi ok rfl
      · cases e
    · cases e
theorem room_in {A : Around} {ds : List PyData} {d : PyData} (h : SeqAt.shaped d = true) (hu : A.units + 65 < cLine) : A.units + 1 + min (PyData.depthAll ds) d.depth < cLine := by
  have h1 := SeqAt.depth_of_shaped h
  have h2 : min (PyData.depthAll ds) d.depth ≤ d.depth := Nat.min_le_right _ _
  omega
theorem or_in (hu : X.A.units + 65 < cLine) : OpR X (compareOp .In) (rD X.K X.mg inD) := by
  intro pins s σ H x y v u Q I rx ry ⟨dx, dy, fx, fy, hx, hy, d, e, q⟩
  simp only [inD, Option.map_eq_some_iff] at e
  obtain ⟨b, e, rfl⟩ := e
  have fin := q (.bl b) H [] (Sm.refl H) val_bl nf
  rcases in_cases hx hy e with ⟨a, o, ey, g, eb⟩ | ⟨c, z, ex, ey, eb⟩ | ⟨d, ds, h1, h2, h3, h4, eb⟩
  · subst ey
    obtain rfl : u = Value.ref a := ry
    exact d_in (by omega) I g rx fun s' I' => ⟨.bl b, H, I', by rw [← eb]; rfl, fin⟩
  · exact op_in_sign pins s σ H x y v u Q I rx ry ⟨c, z, ex, ey, by rw [← eb]; exact fin⟩
  · obtain ⟨as, r1⟩ := Dp.reads I d x v h1 rx
    rcases h2 with h2 | h2
    · obtain ⟨bs, r2⟩ := Dp.reads I _ y u h2 ry
      exact SeqAt.in_list_reads r2 r1 h4 (SeqAt.canLay_of_shaped h3) (room_in h3 hu) ⟨.bl _, H, I, rfl, by rw [← eb]; exact fin⟩
    · obtain ⟨bs, r2⟩ := Dp.reads I _ y u h2 ry
      exact SeqAt.in_tuple_reads r2 r1 h4 (SeqAt.canLay_of_shaped h3) (room_in h3 hu) ⟨.bl _, H, I, rfl, by rw [← eb]; exact fin⟩
theorem or_nin (hu : X.A.units + 65 < cLine) : OpR X (compareOp .NotIn) (rD X.K X.mg ninD) := by
  intro pins s σ H x y v u Q I rx ry ⟨dx, dy, fx, fy, hx, hy, d, e, q⟩
  simp only [ninD, Option.map_eq_some_iff] at e
  obtain ⟨b, e, rfl⟩ := e
  have fin := q (.bl (!b)) H [] (Sm.refl H) val_bl nf
  rcases in_cases hx hy e with ⟨a, o, ey, g, eb⟩ | ⟨c, z, ex, ey, eb⟩ | ⟨d, ds, h1, h2, h3, h4, eb⟩
  · subst ey
    obtain rfl : u = Value.ref a := ry
    exact d_notIn (by omega) I g rx fun s' I' => ⟨.bl (!b), H, I', by rw [← eb]; rfl, fin⟩
  · exact op_notIn_sign pins s σ H x y v u Q I rx ry ⟨c, z, ex, ey, by rw [← eb]; exact fin⟩
  · obtain ⟨as, r1⟩ := Dp.reads I d x v h1 rx
    rcases h2 with h2 | h2
    · obtain ⟨bs, r2⟩ := Dp.reads I _ y u h2 ry
      exact SeqAt.notIn_list_reads r2 r1 h4 (SeqAt.canLay_of_shaped h3) (room_in h3 hu) ⟨.bl _, H, I, rfl, by rw [← eb]; exact fin⟩
    · obtain ⟨bs, r2⟩ := Dp.reads I _ y u h2 ry
      exact SeqAt.notIn_tuple_reads r2 r1 h4 (SeqAt.canLay_of_shaped h3) (room_in h3 hu) ⟨.bl _, H, I, rfl, by rw [← eb]; exact fin⟩
end

/-! ### items -/
def idxD (c i : D) : Option D := match c with
  | .dk ks xs => (keyOf i).bind (dlook ks xs)
  | .dt ks xs => (keysOf i).bind (dlook ks xs)
  | .str z => match i with
    | .int i => if z.length ≤ sizeLine then (atI z.cps.toList i).map fun c => .str ⟨#[c]⟩ else none
    | _ => none
  | c => match i with
    | .int i => (items c).bind fun xs => atI xs i
    | _ => none
theorem VAll.atI {K : PySem.W.Frag} {mg : Str → Option Value} {H : Hp} {ds : List D} {vs : List V} {f : List Addr} {i : Int} {d : D} (h : VAll K mg H ds vs f) (e : L2.atI ds i = some d) : ∃ v g, L2.atI vs i = some v ∧ Val K mg H d v g ∧ ∀ a ∈ g, a ∈ f := by
  unfold L2.atI at e ⊢
  rw [h.length]
  cases q : ixN ds.length i with
  | none => rw [q] at e; cases e
  | some j =>
    rw [q] at e
    obtain ⟨v, g, h1, h2, h3⟩ := h.get (i := j) (d := d) e
    exact ⟨v, g, h1, h2, h3⟩
section
variable {X : Cx}
theorem ix_dict (hu : X.A.units + 1 < cLine) : IxR X (fun x y H Q => ∃ a v, x = .ref a ∧ DGet H a y (some v) ∧ Q v H) := by
  intro value slice pins s σ H x y v u Q I rx ry ⟨a, z, ex, g, q⟩ hs
  subst ex
  obtain rfl : v = Value.ref a := rx
  unfold subscriptTail
  have hT := dict_typeIs I g
  refine wpAny_bind ?_
  rw [getitemInPython_of_ne hT.not_modules]
  refine wpAny_bind (wpAny_specialOf hT PySem.F.slot_dict_getitem.lookup ?_)
  have fin : wpAny (model X.prog X.w) X.A (subscripted slice false (.ref a) u) (fun r s₃ => wpAny (model X.prog X.w) X.A (letTemporaryGo value (.ref a) r >>= fun _ => pure r) (EP X pins σ Q) X.xe s₃) X.xe s := by
    rw [hs]
    exact wpAny_operating (d_getItem hu I g ry fun w' s' I' rw' => wpAny_bind (wpAny_letTemporaryGo (wpAny_pure ⟨z, H, I', rw', q⟩)))
  first
    | exact wpAny_pure (wpAny_bind fin)
    | exact wpAny_bind (wpAny_pure (wpAny_bind fin))
    | exact wpAny_bind fin
theorem ix_any (hu : X.A.units + 1 < cLine) : IxR X (rD X.K X.mg idxD) := by
  intro value slice pins s σ H x y v u Q I rx ry ⟨dx, dy, fx, fy, hx, hy, d, e, q⟩ hs
  have keep : ∀ {d : D} {v : V} {g : List Addr}, Val X.K X.mg H d v g → (∀ a ∈ g, a ∈ fx) → ∀ a ∈ g, a ∈ fx ∨ a ∈ fy ∨ H a = none := fun _ h a ha => .inl (h a ha)
  have seq : ∀ xs i, items dx = some xs → dy = .int i → L2.atI xs i = some d → wpAny (model X.prog X.w) X.A (subscriptTail value slice v u) (EP X pins σ Q) X.xe s := fun xs i h1 h2 h3 => by
    obtain ⟨a, vs, f, ex, hsq, hv, hf⟩ := hx.seq h1
    obtain ⟨z, g, e1, e2, e3⟩ := hv.atI h3
    subst h2
    simp only [Val] at hy
    have fin := q z H g (Sm.refl H) e2 fun b hb => .inl (hf b (e3 b hb))
    rcases hsq with hsq | hsq
    · exact ix_list value slice pins s σ H x y v u Q I rx ry ⟨a, vs, i, z, ex, hy.1, hsq, e1, fin⟩ hs
    · exact ix_tup value slice pins s σ H x y v u Q I rx ry ⟨a, vs, i, z, ex, hy.1, hsq, e1, fin⟩ hs
  unfold idxD at e
  split at e
  · simp only [Option.bind_eq_some_iff] at e
    obtain ⟨k, e1, e2⟩ := e
    simp only [Val] at hx
    obtain ⟨a, kvs, f, q1, q2, q3, q4, q5⟩ := hx
    obtain ⟨z, g, h1, h2, h3⟩ := dlook_some q5 (by rw [q4]; exact e2)
    exact ix_dict hu value slice pins s σ H x y v u Q I rx ry ⟨a, z, q1, .inl ⟨kvs, k, q3, Val.key hy e1, h1.symm⟩, q z H g (Sm.refl H) h2 fun b hb => .inl (by rw [q2]; exact List.mem_cons_of_mem _ (h3 b hb))⟩ hs
  · simp only [Option.bind_eq_some_iff] at e
    obtain ⟨k, e1, e2⟩ := e
    simp only [Val] at hx
    obtain ⟨a, kvs, f, q1, q2, q3, q4, q5⟩ := hx
    obtain ⟨z, g, h1, h2, h3⟩ := dlook_some q5 (by rw [q4]; exact e2)
    obtain ⟨b', k1, k2⟩ := Val.keys hy e1
    exact ix_dict hu value slice pins s σ H x y v u Q I rx ry ⟨a, z, q1, .inr ⟨kvs, k, b', q3, k1, k2, h1.symm⟩, q z H g (Sm.refl H) h2 fun b hb => .inl (by rw [q2]; exact List.mem_cons_of_mem _ (h3 b hb))⟩ hs
  · split at e
    · split at e
      · rename_i hz
        simp only [Option.map_eq_some_iff] at e
        obtain ⟨c, e1, rfl⟩ := e
        simp only [Val] at hx hy
        exact ix_str value slice pins s σ H x y v u Q I rx ry ⟨_, _, c, hx.1, hy.1, hz, e1, q _ H [] (Sm.refl H) val_str nf⟩ hs
      · cases e
    · cases e
  · split at e
    · simp only [Option.bind_eq_some_iff] at e
      obtain ⟨xs, e1, e2⟩ := e
      exact seq xs _ e1 rfl e2
    · cases e
end
section
variable {X : Cx} {W : WX}
theorem de_ix {a b : Expr} {pos : Pos} {f g : En → R D} (hu : X.A.units + 1 < cLine) (ha : DE X W a f) (hb : DE X W b g) (hs : PlainIx b := by exact fun _ _ => rfl) : DE X W (.Subscript a b pos) (eOp idxD f g) :=
  pe_weak (pe_ix (ix_any hu) ha hb hs) fun _ _ _ => st_op
end
end DL
set_option Elab.async false
set_option linter.all false
set_option maxRecDepth 100000
set_option maxHeartbeats 2000000
namespace DL
open PySem PySem.Spec PyProof.Rows L2

/-! ### values that are new at the top -/
/-- what stands within the value can't be changed -/
def immTop : D → Bool
  | .lst xs => immAll xs
  | .tup xs => immAll xs
  | .dk _ xs => immAll xs
  | .dt _ xs => immAll xs
  | d => imm d
/-- fp: t new, f of old; nothing of old where all within is fixed -/
structure New (S : Addr → Prop) (H H' : Hp) (d : D) (fp : List Addr) : Prop where
  ex : ∃ t f, fp = t ++ f ∧ t.Nodup ∧ (∀ a ∈ t, H a = none ∧ Mut (H' a)) ∧ (∀ b ∈ f, S b ∨ H b = none) ∧ (immTop d = true → f = [])
theorem New.prov {S : Addr → Prop} {H H' : Hp} {d : D} {fp : List Addr} (n : New S H H' d fp) : ∀ a ∈ fp, S a ∨ H a = none := fun a ha => by
  obtain ⟨t, f, e, _, h1, h2, _⟩ := n.ex
  rw [e] at ha
  exact (List.mem_append.mp ha).elim (fun z => .inr (h1 a z).1) (h2 a)
theorem New.fresh {S : Addr → Prop} {H H' : Hp} {d : D} {fp : List Addr} (n : New S H H' d fp) (h : immTop d = true) : fp.Nodup ∧ ∀ a ∈ fp, H a = none ∧ Mut (H' a) := by
  obtain ⟨t, f, e, h0, h1, h2, h3⟩ := n.ex
  rw [h3 h, List.append_nil] at e
  subst e
  exact ⟨h0, h1⟩
theorem New.nil {S : Addr → Prop} {H H' : Hp} {d : D} : New S H H' d [] := ⟨[], [], rfl, List.nodup_nil, nf, nf, fun _ => rfl⟩
theorem New.one {S : Addr → Prop} {H H' : Hp} {d : D} {p : Addr} {f : List Addr} (hp : H p = none) (hm : Mut (H' p)) (h2 : ∀ b ∈ f, S b ∨ H b = none) (h3 : immTop d = true → f = []) : New S H H' d (p :: f) :=
  ⟨[p], f, rfl, by simp, by simpa using ⟨hp, hm⟩, h2, h3⟩
theorem New.old {S : Addr → Prop} {H H' : Hp} {d : D} {f : List Addr} (h2 : ∀ b ∈ f, S b ∨ H b = none) (h3 : immTop d = true → f = []) : New S H H' d f :=
  ⟨[], f, rfl, List.nodup_nil, nf, h2, h3⟩
theorem New.sm {S S' : Addr → Prop} {H H' H2 : Hp} {d : D} {fp : List Addr} (n : New S' H' H2 d fp) (e : Sm H H') (w : ∀ a, S' a → S a ∨ H a = none) : New S H H2 d fp := by
  obtain ⟨t, f, q, h0, h1, h2, h3⟩ := n.ex
  exact ⟨t, f, q, h0, fun a ha => ⟨e.back (h1 a ha).1, (h1 a ha).2⟩, fun b hb => (h2 b hb).elim (w b) fun z => .inr (e.back z), h3⟩
theorem mut_new {H : Hp} {p : Addr} {xs : List V} : Mut (upd H p (.lst xs) p) := by rw [upd_same]; trivial
def AfterQ (K : PySem.W.Frag) (mg : Str → Option Value) (S : Addr → Prop) (H : Hp) (d : D) (Q : VK) : Prop := ∀ v H' fp, Sm H H' → Val K mg H' d v fp → New S H H' d fp → Q v H'
def tQ (K : PySem.W.Frag) (mg : Str → Option Value) (W : WX) (f : En → R D) : TE := fun σ H Q => ∃ S env, PEnv K mg S env σ H ∧ Out mg W σ H (f env) fun d => AfterQ K mg S H d Q
abbrev DQ (X : Cx) (W : WX) (e : Expr) (f : En → R D) : Prop := PE X e (tQ X.K X.mg W f)
def eTop (f : En → R D) (env : En) : R D := f env >>= fun d => R.of (if immTop d = true then some d else none)
section
variable {X : Cx} {W : WX} {e : Expr} {f : En → R D}
theorem DQ.de (h : DQ X W e f) : DE X W e f := pe_weak h fun σ H Q ⟨S, env, P, q⟩ => ⟨S, env, P, q.imp fun d q v H' fp e hv n => q v H' fp e hv n.prov⟩
theorem DQ.df (h : DQ X W e f) : DF X W e (eTop f) := pe_weak h fun σ H Q ⟨S, env, P, q⟩ => ⟨S, env, P, q.bind.imp fun d q v H' fp e hv n => by
  obtain ⟨d', e1, q⟩ := Out.of q
  split at e1
  · rename_i hi
    cases e1
    obtain ⟨n1, n2⟩ := n.fresh hi
    exact q v H' fp e hv n1 n2
  · cases e1⟩
end

/-! ### two-place operations that make new values -/
def rQ (K : PySem.W.Frag) (mg : Str → Option Value) (F : D → D → Option D) : R2 := fun x y H Q => ∃ dx dy fx fy, Val K mg H dx x fx ∧ Val K mg H dy y fy ∧ ∃ d, F dx dy = some d ∧
  AfterQ K mg (fun a => a ∈ fx ∨ a ∈ fy) H d Q
theorem st_opQ {F : D → D → Option D} {f g : En → R D} {K : PySem.W.Frag} {mg : Str → Option Value} {W : WX} {σ : L2.St} {H : Hp} {Q : VK} (h : tQ K mg W (eOp F f g) σ H Q) : tOp (rQ K mg F) (tE K mg W f) (tE K mg W g) σ H Q := by
  obtain ⟨S, env, P, q⟩ := h
  refine stE P q fun d v H1 fp e hv hp q => stE (P.sm e) q fun d2 v2 H2 fp2 e2 hv2 hp2 q => ?_
  obtain ⟨r, er, q⟩ := Out.of q
  refine ⟨d, d2, fp, fp2, hv.sm e2, hv2, r, er, fun z H3 f3 e3 h3 n3 => q z H3 f3 ((e.trans e2).trans e3) h3 (n3.sm (e.trans e2) fun a ha => ?_)⟩
  rcases ha with z | z
  · exact hp a z
  · exact (hp2 a z).imp id fun z => e.back z
theorem dq_bin {X : Cx} {W : WX} {F : D → D → Option D} {op : Operator} {a b : Expr} {pos : Pos} {f g : En → R D} (ho : OpR X (binaryOp op) (rQ X.K X.mg F)) (ha : DE X W a f) (hb : DE X W b g) : DQ X W (.BinOp a op b pos) (eOp F f g) :=
  pe_weak (pe_op ho ha hb) fun _ _ _ => st_opQ
section
variable {K : PySem.W.Frag} {mg : Str → Option Value} {H : Hp}
theorem imm_app : ∀ (as bs : List D), immAll (as ++ bs) = (immAll as && immAll bs)
  | [], bs => by simp [immAll]
  | a :: as, bs => by simp only [List.cons_append, immAll, imm_app as bs, Bool.and_assoc]
variable {X : Cx}
theorem oq_add : OpR X (binaryOp .Add) (rQ X.K X.mg addD) := by
  intro pins s σ H x y v u Q I rx ry ⟨dx, dy, fx, fy, hx, hy, d, e, q⟩
  unfold addD at e
  split at e
  · cases e
    simp only [Val] at hx hy
    exact op_add pins s σ H x y v u Q I rx ry ⟨_, _, hx.1, hy.1, q _ H [] (Sm.refl H) val_int .nil⟩
  · split at e
    · cases e
      rename_i hz
      simp only [Val] at hx hy
      exact op_add_str pins s σ H x y v u Q I rx ry ⟨_, _, hx.1, hy.1, hz, q _ H [] (Sm.refl H) val_str .nil⟩
    · cases e
  · split at e
    · cases e
      rename_i hz
      simp only [Val] at hx hy
      obtain ⟨a, vs, f, e1, e2, h1, h2⟩ := hx
      obtain ⟨b, us, g, e3, e4, h3, h4⟩ := hy
      refine op_cat pins s σ H x y v u Q I rx ry ⟨a, b, vs, us, e1, e3, h1, h3, by rw [h2.length, h4.length]; exact hz, fun p hp => ?_⟩
      refine q _ _ _ (Sm.new hp) (val_lst upd_same ((h2.append h4).sm (Sm.new hp))) (.one hp mut_new (fun c hc => ?_) fun hi => ?_)
      · rcases List.mem_append.mp hc with z | z
        · exact .inl (.inl (by rw [e2]; exact List.mem_cons_of_mem _ z))
        · exact .inl (.inr (by rw [e4]; exact List.mem_cons_of_mem _ z))
      · have hi' := hi
        simp only [immTop, imm_app, Bool.and_eq_true] at hi'
        rw [VAll.imm _ h2 hi'.1, VAll.imm _ h4 hi'.2]; rfl
    · cases e
  · split at e
    · cases e
      rename_i xs ys hz
      simp only [Val] at hx hy
      obtain ⟨a, vs, e1, h1, h2⟩ := hx
      obtain ⟨b, us, e3, h3, h4⟩ := hy
      have all := h2.append h4
      have n : ∀ {H' : Hp}, New (fun a => a ∈ fx ∨ a ∈ fy) H H' (.tup (xs ++ ys)) (fx ++ fy) := fun {_} => .old (fun c hc => .inl (List.mem_append.mp hc)) fun hi => by
        have hi' := hi
        simp only [immTop, imm_app, Bool.and_eq_true] at hi'
        rw [VAll.imm _ h2 hi'.1, VAll.imm _ h4 hi'.2]; rfl
      refine op_catA pins s σ H x y v u Q I rx ry ⟨a, b, vs, us, e1, e3, .inl (.inl h1), .inl (.inl h3), by rw [h2.length, h4.length]; exact hz, fun e0 => ?_, fun _ e0 => ?_, fun _ _ p hp => ?_⟩
      · subst e0
        exact q _ H _ (Sm.refl H) (val_tup h3 (by simpa using all)) n
      · subst e0
        exact q _ H _ (Sm.refl H) (val_tup h1 (by simpa using all)) n
      · exact q _ _ _ (Sm.new hp) (val_tup upd_same (all.sm (Sm.new hp))) n
    · cases e
  · split at e
    · cases e
      rename_i hz
      simp only [Val] at hx hy
      obtain ⟨a, vs, o, e1, h1, h2⟩ := hx
      obtain ⟨b, us, g, e3, e4, h3, h4⟩ := hy
      refine op_catF pins s σ H x y v u Q I rx ry ⟨a, o, b, vs, us, e1, e3, h1, h3, by rw [h2.length, h4.length]; exact hz, fun p hp => ?_⟩
      refine q _ _ _ (Sm.new hp) (val_lst upd_same ((h2.append h4).sm (Sm.new hp))) (.one hp mut_new (fun c hc => ?_) fun hi => ?_)
      · rcases List.mem_append.mp hc with z | z
        · exact .inl (.inl z)
        · exact .inl (.inr (by rw [e4]; exact List.mem_cons_of_mem _ z))
      · have hi' := hi
        simp only [immTop, imm_app, Bool.and_eq_true] at hi'
        rw [VAll.imm _ h2 hi'.1, VAll.imm _ h4 hi'.2]; rfl
    · cases e
  · cases e
theorem oq_mul : OpR X (binaryOp .Mult) (rQ X.K X.mg mulD) := by
  intro pins s σ H x y v u Q I rx ry ⟨dx, dy, fx, fy, hx, hy, d, e, q⟩
  unfold mulD at e
  split at e
  · split at e
    · rename_i hz
      cases e
      simp only [Val] at hx hy
      exact op_mul pins s σ H x y v u Q I rx ry ⟨_, _, hx.1, hy.1, by simpa [CMul, fitMul] using hz, q _ H [] (Sm.refl H) val_int .nil⟩
    · cases e
  · split at e
    · rename_i hz
      cases e
      obtain ⟨z1, z2, z3, z4⟩ := hz
      simp only [Val] at hx hy
      obtain ⟨a, vs, f, e1, e2, h1, h2⟩ := hx
      have hf := VAll.imm _ h2 z4
      subst hf
      refine op_rep pins s σ H x y v u Q I rx ry ⟨a, _, vs, e1, hy.1, h1, z1, z2, by rw [h2.length]; exact z3, fun p hp => ?_⟩
      exact q _ _ _ (Sm.new hp) (val_lst upd_same ((VAll.rep h2 _).sm (Sm.new hp))) (.one hp mut_new nf fun _ => rfl)
    · cases e
  · split at e
    · rename_i hz
      cases e
      obtain ⟨z0, z1, z2, z3, z4⟩ := hz
      simp only [Val] at hx hy
      obtain ⟨a, vs, e1, h1, h2⟩ := hx
      have hf := VAll.imm _ h2 z4
      subst hf
      refine op_repM pins s σ H x y v u Q I rx ry ⟨a, _, vs, e1, hy.1, h1, fun w => ?_, z1, z2, by rw [h2.length]; exact z3, fun p hp => ?_⟩
      · rw [w] at h2
        have := h2.length
        simp at this
        rw [List.length_eq_zero_iff.mp this.symm] at z0
        exact nomatch z0
      · exact q _ _ _ (Sm.new hp) (val_tup upd_same ((VAll.rep h2 _).sm (Sm.new hp))) (.old nf fun _ => rfl)
    · cases e
  · cases e
end

/-! ### displays -/
def eLst (f : En → R (List D)) (env : En) : R D := f env >>= fun ds => R.of (if ds.length ≤ sizeLine then some (.lst ds) else none)
def eTup (f : En → R (List D)) (env : En) : R D := f env >>= fun ds => R.of (if ds.length ≤ sizeLine then some (.tup ds) else none)
def AfterLF (K : PySem.W.Frag) (mg : Str → Option Value) (H : Hp) (ds : List D) (Q : List V → Hp → Prop) : Prop := ∀ vs H' fp, Sm H H' → VAll K mg H' ds vs fp → fp.Nodup → (∀ a ∈ fp, H a = none ∧ Mut (H' a)) → Q vs H'
def tAF (K : PySem.W.Frag) (mg : Str → Option Value) (W : WX) (f : En → R (List D)) : TA := fun σ H Q => ∃ S env, PEnv K mg S env σ H ∧ Out mg W σ H (f env) fun ds => AfterLF K mg H ds Q
theorem mut_sm {H H' : Hp} (e : Sm H H') {a : Addr} (m : Mut (H a)) : Mut (H' a) := by
  cases q : H a with
  | none => rw [q] at m; exact m.elim
  | some o => rw [e a o q, ← q]; exact m
abbrev DAF (X : Cx) (W : WX) (es : List Expr) (f : En → R (List D)) : Prop := PA X es (tAF X.K X.mg W f)
section
variable {X : Cx} {W : WX} {pos : Pos}
theorem daf_nil : DAF X W [] eNil := pa_weak pa_nil fun σ H Q ⟨S, env, P, q⟩ => q [] H [] (Sm.refl H) VAll.nil List.nodup_nil nf
theorem daf_cons {e : Expr} {es : List Expr} {f : En → R D} {g : En → R (List D)} (h : DF X W e f) (t : DAF X W es g) (he : starEach (e :: es) X.env = (false, eval e X.env) :: starEach es X.env := by rfl) : DAF X W (e :: es) (eCons f g) :=
  pa_weak (pa_cons h t he) fun σ H Q ⟨S, env, P, q⟩ => by
    refine ⟨S, env, P, q.bind.imp fun d q v H1 fp e hv hn hp => ⟨S, env, P.sm e, (q.sm e).bind.imp fun ds q vs H2 fq e2 hvs hn2 hq => ?_⟩⟩
    refine q (v :: vs) H2 (fp ++ fq) (e.trans e2) (.cons (hv.sm e2) hvs) (List.nodup_append.mpr ⟨hn, hn2, fun a ha b hb z => ?_⟩) fun a ha => (List.mem_append.mp ha).elim (fun z => ⟨(hp a z).1, mut_sm e2 (hp a z).2⟩) fun z => ⟨e.back (hq a z).1, (hq a z).2⟩
    subst z
    exact hv.gone ha (hq a hb).1
theorem dq_lst {es : List Expr} {f : En → R (List D)} (h : DA X W es f) : DQ X W (.List es pos) (eLst f) := pe_weak (pe_lst h) fun σ H Q ⟨S, env, P, q⟩ => by
  refine stA P q fun ds vs H1 fp e hv hp q => ?_
  obtain ⟨d, ed, q⟩ := Out.of q
  split at ed
  · rename_i hz
    cases ed
    refine ⟨by rw [hv.length]; exact hz, fun p hn => q _ _ (p :: fp) (e.trans (Sm.new hn)) (val_lst upd_same (hv.sm (Sm.new hn))) (.one (e.back hn) mut_new hp fun hi => VAll.imm _ hv hi)⟩
  · cases ed
theorem df_lst {es : List Expr} {f : En → R (List D)} (h : DAF X W es f) : DF X W (.List es pos) (eLst f) := pe_weak (pe_lst h) fun σ H Q ⟨S, env, P, q⟩ => by
  refine ⟨S, env, P, q.bind.imp fun ds q vs H1 fp e hv hn hp => ?_⟩
  obtain ⟨d, ed, q⟩ := Out.of q
  split at ed
  · rename_i hz
    cases ed
    refine ⟨by rw [hv.length]; exact hz, fun p hpn => q _ _ (p :: fp) (e.trans (Sm.new hpn)) (val_lst upd_same (hv.sm (Sm.new hpn))) (List.nodup_cons.mpr ⟨fun z => ?_, hn⟩) fun a ha => ?_⟩
    · obtain ⟨o, h1, _⟩ := VAll.dom _ hv p z
      rw [hpn] at h1; cases h1
    · rcases List.mem_cons.mp ha with z | z
      · subst z; exact ⟨e.back hpn, mut_new⟩
      · exact ⟨(hp a z).1, mut_sm (Sm.new hpn) (hp a z).2⟩
  · cases ed
theorem dq_tup {x1} {es : List Expr} {f : En → R (List D)} (h : DA X W es f) : DQ X W (.Tuple es x1 pos) (eTup f) := pe_weak (pe_tup h) fun σ H Q ⟨S, env, P, q⟩ => by
  refine stA P q fun ds vs H1 fp e hv hp q => ?_
  obtain ⟨d, ed, q⟩ := Out.of q
  split at ed
  · rename_i hz
    cases ed
    refine ⟨by rw [hv.length]; exact hz, fun p hn => q _ _ fp (e.trans (Sm.new hn)) (val_tup upd_same (hv.sm (Sm.new hn))) (.old hp fun hi => VAll.imm _ hv hi)⟩
  · cases ed
theorem df_tup {x1} {es : List Expr} {f : En → R (List D)} (h : DAF X W es f) : DF X W (.Tuple es x1 pos) (eTup f) := pe_weak (pe_tup h) fun σ H Q ⟨S, env, P, q⟩ => by
  refine ⟨S, env, P, q.bind.imp fun ds q vs H1 fp e hv hn hp => ?_⟩
  obtain ⟨d, ed, q⟩ := Out.of q
  split at ed
  · rename_i hz
    cases ed
    exact ⟨by rw [hv.length]; exact hz, fun p hpn => q _ _ fp (e.trans (Sm.new hpn)) (val_tup upd_same (hv.sm (Sm.new hpn))) hn fun a ha => ⟨(hp a ha).1, mut_sm (Sm.new hpn) (hp a ha).2⟩⟩
  · cases ed
def eDk (_ : En) : R D := .ok (.dk [] [])
def eDt (_ : En) : R D := .ok (.dt [] [])
theorem df_dk : DF X W (.Dict [] [] pos) eDk := pe_weak pe_dnewK fun σ H Q ⟨S, env, P, q⟩ p hn =>
  q _ _ [p] (Sm.new hn) (by simp only [Val]; exact ⟨p, [], [], rfl, rfl, .inl upd_same, rfl, VAll.nil⟩) (by simp) (by simp only [List.mem_singleton]; rintro a rfl; exact ⟨hn, by rw [upd_same]; trivial⟩)
theorem df_dt : DF X W (.Dict [] [] pos) eDt := pe_weak pe_dnewT fun σ H Q ⟨S, env, P, q⟩ p hn =>
  q _ _ [p] (Sm.new hn) (by simp only [Val]; exact ⟨p, [], [], rfl, rfl, .inl upd_same, rfl, VAll.nil⟩) (by simp) (by simp only [List.mem_singleton]; rintro a rfl; exact ⟨hn, by rw [upd_same]; trivial⟩)
end

/-! ### slices -/
def cutD (xs : List D) (lo hi : Option Int) : List D := (xs.drop (HT.sIx xs.length 0 lo)).take (HT.sIx xs.length xs.length hi - HT.sIx xs.length 0 lo)
def sliceD (c : D) (lo hi : Option Int) : Option D := match c with
  | .lst xs => some (.lst (cutD xs lo hi))
  | .fz xs => some (.lst (cutD xs lo hi))
  | .tup xs => some (.tup (cutD xs lo hi))
  | .str z => if z.length ≤ sizeLine then some (.str (cutS z lo hi)) else none
  | _ => none
def asPart : D → Option (Option Int)
  | .int i => some (some i)
  | _ => none
def tP (K : PySem.W.Frag) (mg : Str → Option Value) (W : WX) (f : En → R (Option Int)) : TO := fun σ H Q => ∃ S env, PEnv K mg S env σ H ∧ Out mg W σ H (f env) fun o => ∀ H', Sm H H' → Q o H'
abbrev DP (X : Cx) (W : WX) (e : Option Expr) (f : En → R (Option Int)) : Prop := PO X e (tP X.K X.mg W f)
theorem po_weak {X : Cx} {e : Option Expr} {t t' : TO} (h : PO X e t) (w : ∀ σ H Q, t' σ H Q → t σ H Q) : PO X e t' := ⟨fun pins s σ H Q I q => h.run pins s σ H Q I (w σ H Q q)⟩
def eNone (_ : En) : R (Option Int) := .ok none
def ePart (f : En → R D) (env : En) : R (Option Int) := f env >>= fun d => R.of (asPart d)
def eSl (f : En → R D) (g h : En → R (Option Int)) (env : En) : R D := f env >>= fun c => g env >>= fun lo => h env >>= fun hi => R.of (sliceD c lo hi)
section
variable {X : Cx} {W : WX} {pos p2 : Pos}
theorem dp_none : DP X W none eNone := po_weak po_none fun σ H Q ⟨S, env, P, q⟩ => q H (Sm.refl H)
theorem dp_some {e : Expr} {f : En → R D} (h : DE X W e f) : DP X W (some e) (ePart f) := po_weak (po_some h) fun σ H Q ⟨S, env, P, q⟩ => by
  refine stE P q fun d v H' fp e hv hp q => ?_
  obtain ⟨o, eo, q⟩ := Out.of q
  cases d <;> simp [asPart] at eo
  subst eo
  simp only [Val] at hv
  exact ⟨_, hv.1, q H' e⟩
theorem VAll.drop {K : PySem.W.Frag} {mg : Str → Option Value} {H : Hp} {ds : List D} {vs : List V} {f : List Addr} (n : Nat) (h : VAll K mg H ds vs f) : ∃ g, VAll K mg H (ds.drop n) (vs.drop n) g ∧ ∀ a ∈ g, a ∈ f := by
  obtain ⟨g, g', h1, h2, h3⟩ := h.take n
  exact ⟨g', h2, fun a ha => by rw [h3]; exact List.mem_append_right _ ha⟩
theorem VAll.cut {K : PySem.W.Frag} {mg : Str → Option Value} {H : Hp} {ds : List D} {vs : List V} {f : List Addr} (lo hi : Option Int) (h : VAll K mg H ds vs f) : ∃ g, VAll K mg H (cutD ds lo hi) (cutV vs lo hi) g ∧ ∀ a ∈ g, a ∈ f := by
  obtain ⟨g, h1, h2⟩ := h.drop (HT.sIx ds.length 0 lo)
  obtain ⟨g1, g2, q1, q2, q3⟩ := h1.take (HT.sIx ds.length ds.length hi - HT.sIx ds.length 0 lo)
  refine ⟨g1, ?_, fun a ha => h2 a (by rw [q3]; exact List.mem_append_left _ ha)⟩
  unfold cutD cutV
  rw [h.length]
  exact q1
theorem sl_any : SlR X (fun x lo hi H Q => ∃ d fp, Val X.K X.mg H d x fp ∧ ∃ r, sliceD d lo hi = some r ∧ AfterQ X.K X.mg (fun a => a ∈ fp) H r Q) := by
  intro pins s σ H x v vl vu lo hi sl Q I rx hs pl pu ⟨d, fp, hv, r, er, q⟩
  have list : ∀ xs a vs f, SqL X.K H a vs → x = .ref a → VAll X.K X.mg H xs vs f → (∀ b ∈ f, b ∈ fp) → r = .lst (cutD xs lo hi) → ∃ T id, typeLookup (.type T) "__getitem__" = pure (some (.builtin id)) ∧ s.TypeIs v T ∧ wpAny (model X.prog X.w) X.A (getItem v (.ref sl)) (EP X pins σ Q) X.xe s := fun xs a vs f hq ex hv hf e => by
    obtain ⟨g, h1, h2⟩ := hv.cut lo hi
    subst e
    exact sl_list pins s σ H x v vl vu lo hi sl Q I rx hs pl pu ⟨a, vs, ex, hq, fun p hp => q _ _ (p :: g) (Sm.new hp) (val_lst upd_same (h1.sm (Sm.new hp))) (.one hp mut_new (fun b hb => .inl (hf b (h2 b hb))) fun hi => VAll.imm _ h1 hi)⟩
  unfold sliceD at er
  split at er
  · cases er
    simp only [Val] at hv
    obtain ⟨a, vs, f, e1, e2, h1, h2⟩ := hv
    exact list _ a vs f (.inl (.inl h1)) e1 h2 (fun b hb => by rw [e2]; exact List.mem_cons_of_mem _ hb) rfl
  · cases er
    simp only [Val] at hv
    obtain ⟨a, vs, e1, h1, h2⟩ := hv
    exact list _ a vs fp h1.sq e1 h2 (fun b hb => hb) rfl
  · cases er
    rename_i xs
    simp only [Val] at hv
    obtain ⟨a, vs, e1, h1, h2⟩ := hv
    obtain ⟨g, h3, h4⟩ := h2.cut lo hi
    refine sl_tupA pins s σ H x v vl vu lo hi sl Q I rx hs pl pu ⟨a, vs, e1, .inl (.inl h1), fun hw => ?_, fun _ p hp => ?_⟩
    · have e : cutD xs lo hi = xs := by
        unfold cutD
        rw [h2.length] at hw
        rw [hw.1, hw.2]
        simp
      rw [e] at q
      exact q _ H fp (Sm.refl H) (val_tup h1 h2) (.old (fun b hb => .inl hb) fun hi => VAll.imm _ h2 hi)
    · exact q _ _ g (Sm.new hp) (val_tup upd_same (h3.sm (Sm.new hp))) (.old (fun b hb => .inl (h4 b hb)) fun hi => VAll.imm _ h3 hi)
  · split at er
    · cases er
      rename_i hz
      simp only [Val] at hv
      exact sl_str pins s σ H x v vl vu lo hi sl Q I rx hs pl pu ⟨_, hv.1, hz, q _ H [] (Sm.refl H) val_str .nil⟩
    · cases er
  · cases er
theorem dq_slice {e : Expr} {lo hi : Option Expr} {f : En → R D} {g h : En → R (Option Int)} (he : DE X W e f) (hl : DP X W lo g) (hh : DP X W hi h) : DQ X W (.Subscript e (.Slice lo hi none p2) pos) (eSl f g h) :=
  pe_weak (pe_slice sl_any he hl hh) fun σ H Q ⟨S, env, P, q⟩ => by
    refine stE P q fun d v H1 fp e1 hv hp q => ?_
    refine ⟨S, env, P.sm e1, q.bind.imp fun o q H2 e2 => ⟨S, env, (P.sm e1).sm e2, (q.sm e2).bind.imp fun o2 q H3 e3 => ?_⟩⟩
    obtain ⟨r, er, q⟩ := Out.of q
    exact ⟨d, fp, (hv.sm e2).sm e3, r, er, fun v H4 f4 e4 h4 n4 => q v H4 f4 (((e1.trans e2).trans e3).trans e4) h4 (n4.sm ((e1.trans e2).trans e3) fun a ha => hp a ha)⟩
end
end DL
set_option Elab.async false
set_option linter.all false
set_option maxRecDepth 100000
set_option maxHeartbeats 2000000
namespace DL
open PySem PySem.Spec PyProof.Rows L2

/-! ### tests -/
/-- a value's truth -/
def truB : D → Option Bool
  | .non => some false
  | .bl b => some b
  | .int i => some (i != 0)
  | .tup xs => some (!xs.isEmpty)
  | .lst xs => some (!xs.isEmpty)
  | _ => none
def eTru (f : En → R D) (env : En) : R Bool := f env >>= fun d => R.of (truB d)
def eAndT (f g : En → R Bool) (env : En) : R Bool := f env >>= fun c => if c = true then g env else .ok false
def eOrT (f g : En → R Bool) (env : En) : R Bool := f env >>= fun c => if c = true then .ok true else g env
def eNotT (f : En → R Bool) (env : En) : R Bool := f env >>= fun c => .ok (!c)
abbrev DW (X : Cx) (W : WX) (e : Expr) (f : En → R Bool) : Prop := PW X e (tT X.K X.mg W f)
theorem pw_weak {X : Cx} {e : Expr} {t t' : TT} (h : PW X e t) (w : ∀ σ H Q, t' σ H Q → t σ H Q) : PW X e t' := ⟨fun wh pins s σ H Q I q => h.run wh pins s σ H Q I (w σ H Q q)⟩
section
variable {X : Cx} {W : WX} {pos : Pos} {a b : Expr} {rest : List Expr}
theorem dt_val {f : En → R D} (h : DE X W a f) (he : ∀ whole, isTrue a X.env whole = (do let v ← whole; standAt a.pos; holding [v] (truthy v)) := by intro _; rfl) : DT X W a (eB f) :=
  pt_weak (pt_val h he) fun σ H Q ⟨S, env, P, q⟩ => by
    refine stE P q fun d v H' fp e hv hp q => ?_
    obtain ⟨b, e1, q⟩ := Out.of q
    exact ⟨b, asB_val hv e1, q H' e⟩
theorem VAll.isEmpty {K : PySem.W.Frag} {mg : Str → Option Value} {H : Hp} {ds : List D} {vs : List V} {f : List Addr} (h : VAll K mg H ds vs f) : vs.isEmpty = ds.isEmpty := by
  have := h.length
  cases vs <;> cases ds <;> simp_all
theorem tru_of {K : PySem.W.Frag} {mg : Str → Option Value} {H : Hp} {d : D} {v : V} {fp : List Addr} {b : Bool} (h : Val K mg H d v fp) (e : truB d = some b) : TruV K v H b := by
  cases d <;> simp only [truB, Option.some.injEq, reduceCtorEq] at e <;> simp only [Val] at h
  · rw [h.1]; exact e.symm
  · rw [h.1]; exact e.symm
  · rw [h.1]; exact e.symm
  · obtain ⟨a, vs, q1, q2, q3⟩ := h
    rw [q1]
    refine .inr (.inl ⟨vs, .inl (.inl q2), ?_⟩)
    rw [← e, q3.isEmpty]
  · obtain ⟨a, vs, f, q1, q2, q3, q4⟩ := h
    rw [q1]
    refine .inl ⟨vs, .inl (.inl q3), ?_⟩
    rw [← e, q4.isEmpty]
theorem dt_tru {f : En → R D} (h : DE X W a f) (he : ∀ whole, isTrue a X.env whole = (do let v ← whole; standAt a.pos; holding [v] (truthy v)) := by intro _; rfl) : DT X W a (eTru f) :=
  pt_weak (pt_truth h he) fun σ H Q ⟨S, env, P, q⟩ => by
    refine stE P q fun d v H' fp e hv hp q => ?_
    obtain ⟨b, e1, q⟩ := Out.of q
    exact ⟨b, tru_of hv e1, q H' e⟩
theorem dt_not {f : En → R Bool} (h : DT X W a f) : DT X W (.UnaryOp .Not a pos) (eNotT f) := pt_weak (pt_not h) fun σ H Q ⟨S, env, P, q⟩ => by
  exact stT P q fun c H' e q => q H' e
theorem dw_and1 {f : En → R Bool} (h : DT X W a f) : DW X W (.BoolOp .And [a] pos) f := pw_and1 h
theorem dw_or1 {f : En → R Bool} (h : DT X W a f) : DW X W (.BoolOp .Or [a] pos) f := pw_or1 h
theorem st_and {K : PySem.W.Frag} {mg : Str → Option Value} {f g : En → R Bool} {σ : L2.St} {H : Hp} {Q : Bool → Hp → Prop} (h : tT K mg W (eAndT f g) σ H Q) : tAnd (tT K mg W f) (tT K mg W g) σ H Q := by
  obtain ⟨S, env, P, q⟩ := h
  refine ⟨S, env, P, q.bind.imp fun c q H' e => ?_⟩
  cases c with
  | true => simp only [if_true] at q ⊢; exact ⟨S, env, P.sm e, (q.sm e).imp fun b q H2 e2 => q H2 (e.trans e2)⟩
  | false => simp only [Bool.false_eq_true, if_false] at q ⊢; exact q H' e
theorem st_or {K : PySem.W.Frag} {mg : Str → Option Value} {f g : En → R Bool} {σ : L2.St} {H : Hp} {Q : Bool → Hp → Prop} (h : tT K mg W (eOrT f g) σ H Q) : tOr (tT K mg W f) (tT K mg W g) σ H Q := by
  obtain ⟨S, env, P, q⟩ := h
  refine ⟨S, env, P, q.bind.imp fun c q H' e => ?_⟩
  cases c with
  | false => simp only [Bool.false_eq_true, if_false] at q ⊢; exact ⟨S, env, P.sm e, (q.sm e).imp fun b q H2 e2 => q H2 (e.trans e2)⟩
  | true => simp only [if_true] at q ⊢; exact q H' e
theorem dw_and {f g : En → R Bool} (ha : DT X W a f) (hb : DW X W (.BoolOp .And (b :: rest) pos) g) : DW X W (.BoolOp .And (a :: b :: rest) pos) (eAndT f g) := pw_weak (pw_and ha hb) fun _ _ _ => st_and
theorem dw_or {f g : En → R Bool} (ha : DT X W a f) (hb : DW X W (.BoolOp .Or (b :: rest) pos) g) : DW X W (.BoolOp .Or (a :: b :: rest) pos) (eOrT f g) := pw_weak (pw_or ha hb) fun _ _ _ => st_or
/-! ### and, or, not as values -/
def eAnd (f g : En → R D) (env : En) : R D := f env >>= fun d => R.of (asB d) >>= fun c => if c = true then g env else .ok (.bl false)
def eOr (f g : En → R D) (env : En) : R D := f env >>= fun d => R.of (asB d) >>= fun c => if c = true then .ok (.bl true) else g env
def eNot (f : En → R D) (env : En) : R D := f env >>= fun d => R.of (asB d) >>= fun c => .ok (.bl (!c))
theorem de_one {op} {f : En → R D} (h : DE X W a f) : DE X W (.BoolOp op [a] pos) f := pe_one h
theorem de_and {f g : En → R D} (ha : DE X W a f) (hb : DE X W (.BoolOp .And (b :: rest) pos) g) : DE X W (.BoolOp .And (a :: b :: rest) pos) (eAnd f g) := pe_weak (pe_and ha hb) fun σ H Q ⟨S, env, P, q⟩ => by
  refine stE P q fun d v H' fp e hv hp q => ?_
  obtain ⟨c, e1, q⟩ := Out.of q.bind
  refine ⟨c, asB_val hv e1, ?_⟩
  cases c with
  | true => simp only [if_true] at q ⊢; exact ⟨S, env, P.sm e, q.imp fun b q => After.sm q e⟩
  | false => simp only [Bool.false_eq_true, if_false] at q ⊢; exact q _ H' [] e val_bl nf
theorem de_or {f g : En → R D} (ha : DE X W a f) (hb : DE X W (.BoolOp .Or (b :: rest) pos) g) : DE X W (.BoolOp .Or (a :: b :: rest) pos) (eOr f g) := pe_weak (pe_or ha hb) fun σ H Q ⟨S, env, P, q⟩ => by
  refine stE P q fun d v H' fp e hv hp q => ?_
  obtain ⟨c, e1, q⟩ := Out.of q.bind
  refine ⟨c, asB_val hv e1, ?_⟩
  cases c with
  | false => simp only [Bool.false_eq_true, if_false] at q ⊢; exact ⟨S, env, P.sm e, q.imp fun b q => After.sm q e⟩
  | true => simp only [if_true] at q ⊢; exact q _ H' [] e val_bl nf
theorem de_not {f : En → R D} (h : DE X W a f) : DE X W (.UnaryOp .Not a pos) (eNot f) := pe_weak (pe_not h) fun σ H Q ⟨S, env, P, q⟩ => by
  refine stE P q fun d v H' fp e hv hp q => ?_
  obtain ⟨c, e1, q⟩ := Out.of q.bind
  exact ⟨c, asB_val hv e1, q _ H' [] e val_bl nf⟩
def eNeg (f : En → R D) (env : En) : R D := f env >>= fun d => match d with
  | .int i => .ok (.int (-i))
  | _ => .no
theorem de_neg {f : En → R D} (h : DE X W a f) : DE X W (.UnaryOp .USub a pos) (eNeg f) := pe_weak (pe_un un_neg h) fun σ H Q ⟨S, env, P, q⟩ => by
  refine stE P q fun d v H' fp e hv hp q => ?_
  cases d <;> first | exact q.elim | skip
  simp only [Val] at hv
  exact ⟨_, hv.1, q _ H' [] e val_int nf⟩
/-! ### a if t else b -/
def eIf {c : Type} (t : En → R Bool) (f g : En → R c) (env : En) : R c := t env >>= fun b => if b = true then f env else g env
theorem de_if {c : Expr} {t : En → R Bool} {f g : En → R D} (hc : DT X W c t) (ha : DE X W a f) (hb : DE X W b g) : DE X W (.IfExp c a b pos) (eIf t f g) := pe_weak (pe_ifExp hc ha hb) fun σ H Q ⟨S, env, P, q⟩ => by
  refine stT P q fun c H' e q => ?_
  cases c with
  | true => simp only [if_true] at q ⊢; exact ⟨S, env, P.sm e, q.imp fun b q => After.sm q e⟩
  | false => simp only [Bool.false_eq_true, if_false] at q ⊢; exact ⟨S, env, P.sm e, q.imp fun b q => After.sm q e⟩
theorem df_if {c : Expr} {t : En → R Bool} {f g : En → R D} (hc : DT X W c t) (ha : DF X W a f) (hb : DF X W b g) : DF X W (.IfExp c a b pos) (eIf t f g) := pe_weak (pe_ifExp hc ha hb) fun σ H Q ⟨S, env, P, q⟩ => by
  refine stT P q fun c H' e q => ?_
  cases c with
  | true => simp only [if_true] at q ⊢; exact ⟨S, env, P.sm e, q.imp fun b q v H2 fp e2 h n z => q v H2 fp (e.trans e2) h n fun a ha => ⟨e.back (z a ha).1, (z a ha).2⟩⟩
  | false => simp only [Bool.false_eq_true, if_false] at q ⊢; exact ⟨S, env, P.sm e, q.imp fun b q v H2 fp e2 h n z => q v H2 fp (e.trans e2) h n fun a ha => ⟨e.back (z a ha).1, (z a ha).2⟩⟩
end

/-! ### built-in functions by values -/
def rCD (K : PySem.W.Frag) (mg : Str → Option Value) (F : List D → Option D) : List V → Hp → VK → Prop := fun xs H Q => ∃ ds fp, VAll K mg H ds xs fp ∧ ∃ d, F ds = some d ∧ AfterQ K mg (fun a => a ∈ fp) H d Q
def eCall (F : List D → Option D) (g : En → R (List D)) (env : En) : R D := g env >>= fun ds => R.of (F ds)
section
variable {X : Cx} {W : WX} {x : Str} {p pos : Pos} {e : Expr} {es : List Expr} {id T : String} {F : List D → Option D} {g : En → R (List D)}
theorem st_call {K : PySem.W.Frag} {mg : Str → Option Value} {σ : L2.St} {H : Hp} {Q : VK} (h : tQ K mg W (eCall F g) σ H Q) : tCB (rCD K mg F) (tA K mg W g) σ H Q := by
  obtain ⟨S, env, P, q⟩ := h
  refine stA P q fun ds vs H1 fp e hv hp q => ?_
  obtain ⟨r, er, q⟩ := Out.of q
  exact ⟨ds, fp, hv, r, er, fun v H2 f2 e2 h2 n2 => q v H2 f2 (e.trans e2) h2 (n2.sm e fun a ha => hp a ha)⟩
theorem dq_callB (hc : CallR X (.builtin id) (rCD X.K X.mg F)) (hm : X.mg x = none) (hv : bootBuiltins x = some (.builtin id)) (ha : DA X W (e :: es) g) (hg : Gl X x := by rfl) (hn : x ≠ "__name__" := by decide) (hdb : (x == ("__debug__" : Str)) = false := by decide)
    (he : starEach (e :: es) X.env = (false, eval e X.env) :: starEach es X.env := by rfl) (hpl : (backTo pos (starEach es X.env)).any (·.1) = false := by rfl) : DQ X W (.Call (.Name x p) (e :: es) [] pos) (eCall F g) :=
  pe_weak (pe_callB hc hg hm hv ha hn hdb he hpl) fun _ _ _ => st_call
theorem dq_callTy (hc : CallR X (.type T) (rCD X.K X.mg F)) (hm : X.mg x = none) (hv : bootBuiltins x = some (.type T)) (ha : DA X W (e :: es) g) (hg : Gl X x := by rfl) (hn : x ≠ "__name__" := by decide) (hdb : (x == ("__debug__" : Str)) = false := by decide)
    (he : starEach (e :: es) X.env = (false, eval e X.env) :: starEach es X.env := by rfl) (hpl : (backTo pos (starEach es X.env)).any (·.1) = false := by rfl) : DQ X W (.Call (.Name x p) (e :: es) [] pos) (eCall F g) :=
  pe_weak (pe_callTy hc hg hm hv ha hn hdb he hpl) fun _ _ _ => st_call
end
section
variable {K : PySem.W.Frag} {mg : Str → Option Value} {H : Hp}
theorem VAll.inv1 {d : D} {vs : List V} {fp : List Addr} (h : VAll K mg H [d] vs fp) : ∃ v, vs = [v] ∧ Val K mg H d v fp := by
  simp only [VAll] at h
  obtain ⟨v, vr, f, g, e, ef, h1, h2, h3⟩ := h
  exact ⟨v, by rw [e, h2], by rw [ef, h3, List.append_nil]; exact h1⟩
theorem VAll.inv2 {d d2 : D} {vs : List V} {fp : List Addr} (h : VAll K mg H [d, d2] vs fp) : ∃ v v2 f f2, vs = [v, v2] ∧ fp = f ++ f2 ∧ Val K mg H d v f ∧ Val K mg H d2 v2 f2 := by
  simp only [VAll] at h
  obtain ⟨v, vr, f, g, e, ef, h1, v2, vr2, f2, g2, e2, ef2, h2, h3, h4⟩ := h
  exact ⟨v, v2, f, f2, by rw [e, e2, h3], by rw [ef, ef2, h4, List.append_nil], h1, h2⟩
end
/-- len -/
def lenB : D → Option Nat
  | .str z => if z.length ≤ sizeLine then some z.length else none
  | .dk ks _ => some ks.length
  | .dt ks _ => some ks.length
  | d => (items d).map (·.length)
def lenF : List D → Option D
  | [d] => (lenB d).map fun (n : Nat) => .int (n : Int)
  | _ => none
def intF : List D → Option D
  | [.int i] => some (.int i)
  | [.bl b] => some (.int (if b then 1 else 0))
  | _ => none
def absF : List D → Option D
  | [.int i] => some (.int (if i < 0 then -i else i))
  | _ => none
def strF : List D → Option D
  | [.int i] => if i.natAbs.log2 < 1920 then some (.str (toString i)) else none
  | _ => none
def minL : List Int → Option Int
  | [] => none
  | [x] => some x
  | x :: xs => (minL xs).map fun m => if x ≤ m then x else m
def maxL : List Int → Option Int
  | [] => none
  | [x] => some x
  | x :: xs => (maxL xs).map fun m => if m ≤ x then x else m
def minF : List D → Option D
  | [.int i, .int j] => some (.int (if j < i then j else i))
  | [.lst xs] => (intsD xs).bind fun ns => (minL ns).map .int
  | _ => none
def maxF : List D → Option D
  | [.int i, .int j] => some (.int (if j > i then j else i))
  | [.lst xs] => (intsD xs).bind fun ns => (maxL ns).map .int
  | _ => none
def sumF : List D → Option D
  | [.lst xs] => (intsD xs).map fun ns => .int ns.sum
  | _ => none
def blsD : List D → Option (List Bool)
  | [] => some []
  | .bl b :: r => (blsD r).map (b :: ·)
  | _ :: _ => none
def anyF : List D → Option D
  | [.lst xs] => (blsD xs).map fun bs => .bl (bs.any fun b => b)
  | _ => none
def allF : List D → Option D
  | [.lst xs] => (blsD xs).map fun bs => .bl (bs.all fun b => b)
  | _ => none
def listF : List D → Option D
  | [d] => (items d).map .lst
  | _ => none
def tupleF : List D → Option D
  | [.lst xs] => some (.tup xs)
  | [.fz xs] => some (.tup xs)
  | [.tup xs] => some (.tup xs)
  | _ => none
theorem minL_spec : ∀ (ns : List Int) (m : Int), minL ns = some m → m ∈ ns ∧ ∀ y ∈ ns, m ≤ y
  | [], m, h => by simp [minL] at h
  | [x], m, h => by simp [minL] at h; subst h; simp
  | x :: y :: r, m, h => by
    simp only [minL, Option.map_eq_some_iff] at h
    obtain ⟨k, h1, h2⟩ := h
    obtain ⟨i1, i2⟩ := minL_spec (y :: r) k h1
    subst h2
    split
    · rename_i hx
      refine ⟨List.mem_cons_self, fun z hz => ?_⟩
      rcases List.mem_cons.mp hz with e | e
      · omega
      · have := i2 z e; omega
    · rename_i hx
      refine ⟨List.mem_cons_of_mem _ i1, fun z hz => ?_⟩
      rcases List.mem_cons.mp hz with e | e
      · omega
      · exact i2 z e
theorem maxL_spec : ∀ (ns : List Int) (m : Int), maxL ns = some m → m ∈ ns ∧ ∀ y ∈ ns, y ≤ m
  | [], m, h => by simp [maxL] at h
  | [x], m, h => by simp [maxL] at h; subst h; simp
  | x :: y :: r, m, h => by
    simp only [maxL, Option.map_eq_some_iff] at h
    obtain ⟨k, h1, h2⟩ := h
    obtain ⟨i1, i2⟩ := maxL_spec (y :: r) k h1
    subst h2
    split
    · rename_i hx
      refine ⟨List.mem_cons_self, fun z hz => ?_⟩
      rcases List.mem_cons.mp hz with e | e
      · omega
      · have := i2 z e; omega
    · rename_i hx
      refine ⟨List.mem_cons_of_mem _ i1, fun z hz => ?_⟩
      rcases List.mem_cons.mp hz with e | e
      · omega
      · exact i2 z e
section
variable {K : PySem.W.Frag} {mg : Str → Option Value} {H : Hp}
theorem VAll.bls : ∀ {ds : List D} {vs : List V} {f : List Addr} {bs : List Bool}, VAll K mg H ds vs f → blsD ds = some bs → vs = bs.map V.bl
  | [], vs, f, ns, h, e => by
    simp only [VAll] at h
    simp only [blsD, Option.some.injEq] at e
    rw [h.1, ← e]; rfl
  | d :: ds, vs, f, ns, h, e => by
    simp only [VAll] at h
    obtain ⟨v, vr, f1, g, ev, ef, h1, h2⟩ := h
    cases d <;> simp only [blsD, reduceCtorEq, Option.map_eq_some_iff] at e
    obtain ⟨ms, e1, e2⟩ := e
    simp only [Val] at h1
    rw [ev, ← e2, h1.1, VAll.bls h2 e1]; rfl
variable {X : Cx}
theorem cr_len : CallR X (.builtin "len") (rCD X.K X.mg lenF) := by
  intro pins s σ H xs us Q I r ⟨ds, fp, hv, d, e, q⟩
  match ds, hv, e with
  | [d0], hv, e' =>
    clear e
    simp only [lenF, Option.map_eq_some_iff] at e'
    obtain ⟨n, e, ed⟩ := e'
    subst ed
    obtain ⟨v, exs, hv1⟩ := hv.inv1; clear hv; subst exs; have hv := hv1; clear hv1
    have fin := q (.int n) H [] (Sm.refl H) val_int .nil
    have seq : ∀ ys, items d0 = some ys → n = ys.length → wpAny (model X.prog X.w) X.A (call (.builtin "len") us) (EP X pins σ Q) X.xe s := fun ys h1 h2 => by
      obtain ⟨a, vs, f, ex, hsq, hv', hf⟩ := hv.seq h1
      subst ex
      exact call_len_seq pins s σ H _ us Q I r ⟨a, vs, rfl, hsq, by rw [hv'.length, ← h2]; exact fin⟩
    unfold lenB at e
    split at e
    · split at e
      · rename_i hz
        cases e
        simp only [Val] at hv
        exact call_len_str pins s σ H _ us Q I r ⟨_, by rw [hv.1], hz, fin⟩
      · cases e
    · cases e
      simp only [Val] at hv
      obtain ⟨a, kvs, f, e1, e2, e3, e4, e5⟩ := hv
      subst e1
      obtain ⟨u, rfl, ru⟩ := vals1 r
      cases ru
      rw [← e4, List.length_map] at fin
      exact d_len I e3 fun t s' I' => ⟨.int (kvs.length : Nat), H, I', ⟨t, rfl⟩, fin⟩
    · cases e
      simp only [Val] at hv
      obtain ⟨a, kvs, f, e1, e2, e3, e4, e5⟩ := hv
      subst e1
      obtain ⟨u, rfl, ru⟩ := vals1 r
      cases ru
      rw [← e4, List.length_map] at fin
      obtain ⟨z, hd, ys, rel, dd⟩ := dt_rd I.hok e3
      have hl : kvs.length = ys.length := Paired.length rel
      refine PySem.call_len_dictH hd dd (by rw [← hl]; rw [sizeLine_eq] at z; omega) ?_
      rw [← hl]
      exact ⟨.int ((kvs.length : Nat) : Int), H, I.tok _, ⟨_, rfl⟩, fin⟩
    · simp only [Option.map_eq_some_iff] at e
      obtain ⟨ys, e1, e2⟩ := e
      exact seq ys e1 e2.symm
  | [], _, e => simp [lenF] at e
  | _ :: _ :: _, _, e => simp [lenF] at e
theorem cr_int : CallR X (.type "int") (rCD X.K X.mg intF) := by
  intro pins s σ H xs us Q I r ⟨ds, fp, hv, d, e, q⟩
  unfold intF at e
  split at e
  · cases e
    obtain ⟨v, exs, hv1⟩ := hv.inv1; clear hv; subst exs; have hv := hv1; clear hv1
    simp only [Val] at hv
    exact call_int1 pins s σ H _ us Q I r (.inl ⟨_, by rw [hv.1], q _ H [] (Sm.refl H) val_int .nil⟩)
  · cases e
    obtain ⟨v, exs, hv1⟩ := hv.inv1; clear hv; subst exs; have hv := hv1; clear hv1
    simp only [Val] at hv
    exact call_int1 pins s σ H _ us Q I r (.inr ⟨_, by rw [hv.1], q _ H [] (Sm.refl H) val_int .nil⟩)
  · cases e
theorem cr_abs : CallR X (.builtin "abs") (rCD X.K X.mg absF) := by
  intro pins s σ H xs us Q I r ⟨ds, fp, hv, d, e, q⟩
  unfold absF at e
  split at e
  · cases e
    obtain ⟨v, exs, hv1⟩ := hv.inv1; clear hv; subst exs; have hv := hv1; clear hv1
    simp only [Val] at hv
    exact call_abs pins s σ H _ us Q I r ⟨_, by rw [hv.1], q _ H [] (Sm.refl H) val_int .nil⟩
  · cases e
theorem cr_str : CallR X (.type "str") (rCD X.K X.mg strF) := by
  intro pins s σ H xs us Q I r ⟨ds, fp, hv, d, e, q⟩
  unfold strF at e
  split at e
  · split at e
    · rename_i hz
      cases e
      obtain ⟨v, exs, hv1⟩ := hv.inv1; clear hv; subst exs; have hv := hv1; clear hv1
      simp only [Val] at hv
      exact call_str_int pins s σ H _ us Q I r ⟨_, by rw [hv.1], hz, q _ H [] (Sm.refl H) val_str .nil⟩
    · cases e
  · cases e
theorem Val.lstInts {xs : List D} {v : V} {fp : List Addr} {ns : List Int} (h : Val K mg H (.lst xs) v fp) (e : intsD xs = some ns) : ∃ a, v = .ref a ∧ SqL K H a (ns.map V.int) := by
  simp only [Val] at h
  obtain ⟨a, vs, f, q1, q2, q3, q4⟩ := h
  exact ⟨a, q1, .inl (.inl (by rw [q3, VAll.intsD q4 e]))⟩
theorem cr_minD (hc : X.calm = true) : CallR X (.builtin "min") (rCD X.K X.mg minF) := by
  intro pins s σ H xs us Q I r ⟨ds, fp, hv, d, e, q⟩
  unfold minF at e
  split at e
  · cases e
    obtain ⟨v, v2, f, f2, rfl, ef, h1, h2⟩ := hv.inv2
    simp only [Val] at h1 h2
    exact call_min2 hc pins s σ H _ us Q I r ⟨_, _, by rw [h1.1, h2.1], q _ H [] (Sm.refl H) val_int .nil⟩
  · simp only [Option.bind_eq_some_iff, Option.map_eq_some_iff] at e
    obtain ⟨ns, e1, m, e2, rfl⟩ := e
    obtain ⟨v, exs, hv1⟩ := hv.inv1; clear hv; subst exs; have hv := hv1; clear hv1
    obtain ⟨a, rfl, hs⟩ := hv.lstInts e1
    obtain ⟨m1, m2⟩ := minL_spec ns m e2
    refine cr_min hc pins s σ H _ us Q I r ⟨a, ns, rfl, hs, List.length_pos_of_mem m1, fun m' h1 h2 => ?_⟩
    have e : m' = m := by have := h2 m m1; have := m2 m' h1; omega
    subst e
    exact q _ H [] (Sm.refl H) val_int .nil
  · cases e
theorem cr_maxD (hc : X.calm = true) : CallR X (.builtin "max") (rCD X.K X.mg maxF) := by
  intro pins s σ H xs us Q I r ⟨ds, fp, hv, d, e, q⟩
  unfold maxF at e
  split at e
  · cases e
    obtain ⟨v, v2, f, f2, rfl, ef, h1, h2⟩ := hv.inv2
    simp only [Val] at h1 h2
    exact call_max2 hc pins s σ H _ us Q I r ⟨_, _, by rw [h1.1, h2.1], q _ H [] (Sm.refl H) val_int .nil⟩
  · simp only [Option.bind_eq_some_iff, Option.map_eq_some_iff] at e
    obtain ⟨ns, e1, m, e2, rfl⟩ := e
    obtain ⟨v, exs, hv1⟩ := hv.inv1; clear hv; subst exs; have hv := hv1; clear hv1
    obtain ⟨a, rfl, hs⟩ := hv.lstInts e1
    obtain ⟨m1, m2⟩ := maxL_spec ns m e2
    refine cr_max hc pins s σ H _ us Q I r ⟨a, ns, rfl, hs, List.length_pos_of_mem m1, fun m' h1 h2 => ?_⟩
    have e : m' = m := by have := h2 m m1; have := m2 m' h1; omega
    subst e
    exact q _ H [] (Sm.refl H) val_int .nil
  · cases e
theorem cr_sumD (hc : X.calm = true) : CallR X (.builtin "sum") (rCD X.K X.mg sumF) := by
  intro pins s σ H xs us Q I r ⟨ds, fp, hv, d, e, q⟩
  unfold sumF at e
  split at e
  · simp only [Option.map_eq_some_iff] at e
    obtain ⟨ns, e1, rfl⟩ := e
    obtain ⟨v, exs, hv1⟩ := hv.inv1; clear hv; subst exs; have hv := hv1; clear hv1
    obtain ⟨a, rfl, hs⟩ := hv.lstInts e1
    exact cr_sum hc pins s σ H _ us Q I r ⟨a, ns, rfl, hs, q _ H [] (Sm.refl H) val_int .nil⟩
  · cases e
theorem Val.lstBls {xs : List D} {v : V} {fp : List Addr} {bs : List Bool} (h : Val K mg H (.lst xs) v fp) (e : blsD xs = some bs) : ∃ a, v = .ref a ∧ SqL K H a (bs.map V.bl) := by
  simp only [Val] at h
  obtain ⟨a, vs, f, q1, q2, q3, q4⟩ := h
  exact ⟨a, q1, .inl (.inl (by rw [q3, VAll.bls q4 e]))⟩
theorem cr_anyD (hc : X.calm = true) : CallR X (.builtin "any") (rCD X.K X.mg anyF) := by
  intro pins s σ H xs us Q I r ⟨ds, fp, hv, d, e, q⟩
  unfold anyF at e
  split at e
  · simp only [Option.map_eq_some_iff] at e
    obtain ⟨bs, e1, rfl⟩ := e
    obtain ⟨v, exs, hv1⟩ := hv.inv1; clear hv; subst exs; have hv := hv1; clear hv1
    obtain ⟨a, rfl, hs⟩ := hv.lstBls e1
    exact cr_any hc pins s σ H _ us Q I r ⟨a, bs, rfl, hs, q _ H [] (Sm.refl H) val_bl .nil⟩
  · cases e
theorem cr_allD (hc : X.calm = true) : CallR X (.builtin "all") (rCD X.K X.mg allF) := by
  intro pins s σ H xs us Q I r ⟨ds, fp, hv, d, e, q⟩
  unfold allF at e
  split at e
  · simp only [Option.map_eq_some_iff] at e
    obtain ⟨bs, e1, rfl⟩ := e
    obtain ⟨v, exs, hv1⟩ := hv.inv1; clear hv; subst exs; have hv := hv1; clear hv1
    obtain ⟨a, rfl, hs⟩ := hv.lstBls e1
    exact cr_all hc pins s σ H _ us Q I r ⟨a, bs, rfl, hs, q _ H [] (Sm.refl H) val_bl .nil⟩
  · cases e
theorem cr_list : CallR X (.type "list") (rCD X.K X.mg listF) := by
  intro pins s σ H xs us Q I r ⟨ds, fp, hv, d, e, q⟩
  match ds, e with
  | [d0], e =>
    simp only [listF, Option.map_eq_some_iff] at e
    obtain ⟨ys, e1, rfl⟩ := e
    obtain ⟨v, exs, hv1⟩ := hv.inv1; clear hv; subst exs; have hv := hv1; clear hv1
    obtain ⟨a, vs, f, ex, hsq, hv', hf⟩ := hv.seq e1
    subst ex
    exact call_list_of pins s σ H _ us Q I r ⟨a, vs, rfl, hsq, fun l hl => q _ _ (l :: f) (Sm.new hl) (val_lst upd_same (hv'.sm (Sm.new hl))) (.one hl mut_new (fun b hb => .inl (hf b hb)) fun hi => VAll.imm _ hv' hi)⟩
  | [], e => simp [listF] at e
  | _ :: _ :: _, e => simp [listF] at e
theorem cr_tuple : CallR X (.type "tuple") (rCD X.K X.mg tupleF) := by
  intro pins s σ H xs us Q I r ⟨ds, fp, hv, d, e, q⟩
  have new : ∀ ys a vs f, SqL X.K H a vs → VAll X.K X.mg H ys vs f → (∀ b ∈ f, b ∈ fp) → d = .tup ys → xs = [.ref a] → wpAny (model X.prog X.w) X.A (call (.type "tuple") us) (EP X pins σ Q) X.xe s := fun ys a vs f hq hw hf ed ex => by
    subst ed ex
    exact call_tuple_of pins s σ H _ us Q I r ⟨a, vs, rfl, .inl ⟨hq, fun l hl => q _ _ f (Sm.new hl) (val_tup upd_same (hw.sm (Sm.new hl))) (.old (fun b hb => .inl (hf b hb)) fun hi => VAll.imm _ hw hi)⟩⟩
  unfold tupleF at e
  split at e
  · cases e
    obtain ⟨v, exs, hv1⟩ := hv.inv1; clear hv; subst exs; have hv := hv1; clear hv1
    simp only [Val] at hv
    obtain ⟨a, vs, f, e1, e2, h1, h2⟩ := hv
    subst e1
    exact new _ a vs f (.inl (.inl h1)) h2 (fun b hb => by rw [e2]; exact List.mem_cons_of_mem _ hb) rfl rfl
  · cases e
    obtain ⟨v, exs, hv1⟩ := hv.inv1; clear hv; subst exs; have hv := hv1; clear hv1
    simp only [Val] at hv
    obtain ⟨a, vs, e1, h1, h2⟩ := hv
    subst e1
    exact new _ a vs fp h1.sq h2 (fun b hb => hb) rfl rfl
  · cases e
    obtain ⟨v, exs, hv1⟩ := hv.inv1; clear hv; subst exs; have hv := hv1; clear hv1
    simp only [Val] at hv
    obtain ⟨a, vs, e1, h1, h2⟩ := hv
    subst e1
    exact call_tuple_of pins s σ H _ us Q I r ⟨a, vs, rfl, .inr ⟨.inl (.inl h1), q _ H fp (Sm.refl H) (val_tup h1 h2) (.old (fun b hb => .inl hb) fun hi => VAll.imm _ h2 hi)⟩⟩
  · cases e
end
/-! ### isinstance -/
def tyName : D → Option String
  | .non => some "NoneType"
  | .bl _ => some "bool"
  | .int _ => some "int"
  | .str _ => some "str"
  | .tup _ => some "tuple"
  | .kt _ => some "tuple"
  | .lst _ => some "list"
  | .fz _ => some "list"
  | .dk _ _ => some "dict"
  | _ => none
def subTy (a n : String) : Option Bool :=
  if (n == "int" || n == "bool" || n == "str" || n == "tuple" || n == "list" || n == "dict") = true then some (a == n || (a == "bool" && n == "int")) else none
def isiB (d : D) (n : String) : Option Bool := (tyName d).bind fun a => subTy a n
def isiF : List D → Option D
  | [d, .ty n] => (isiB d n).map .bl
  | _ => none
theorem subTy_kit {a n : String} {b : Bool} (ha : a ∈ ["NoneType", "bool", "int", "str", "tuple", "list", "dict"]) (h : subTy a n = some b) : kitB a n = some b := by
  unfold subTy at h
  split at h
  · rename_i hn
    simp only [Bool.or_eq_true, beq_iff_eq] at hn
    cases h
    have hn' : n ∈ ["int", "bool", "str", "tuple", "list", "dict"] := by rcases hn with ((((h|h)|h)|h)|h)|h <;> simp [h]
    have all : ∀ a ∈ ["NoneType", "bool", "int", "str", "tuple", "list", "dict"], ∀ n ∈ ["int", "bool", "str", "tuple", "list", "dict"], kitB a n = some (a == n || (a == "bool" && n == "int")) := by decide +kernel
    exact all a ha n hn'
  · cases h
section
variable {X : Cx}
theorem cr_isi : CallR X (.builtin "isinstance") (rCD X.K X.mg isiF) := by
  intro pins s σ H xs us Q I r ⟨ds, fp, hv, d, e, q⟩
  unfold isiF at e
  split at e
  · rename_i d0 n
    simp only [Option.map_eq_some_iff, isiB, Option.bind_eq_some_iff] at e
    obtain ⟨b, ⟨a, e1, e2⟩, rfl⟩ := e
    obtain ⟨v, v2, f, f2, rfl, ef, h1, h2⟩ := hv.inv2
    simp only [Val] at h2
    have ha : a ∈ ["NoneType", "bool", "int", "str", "tuple", "list", "dict"] := by cases d0 <;> simp [tyName] at e1 <;> subst e1 <;> simp
    have ty : TyX X.K H v (.type a) := by
      cases d0 <;> simp only [tyName, Option.some.injEq, reduceCtorEq] at e1 <;> subst e1 <;> simp only [Val] at h1
      · rw [h1.1]; exact .base .non
      · rw [h1.1]; exact .base (.bl _)
      · rw [h1.1]; exact .base (.int _)
      · rw [h1.1]; exact .base (.str _)
      · obtain ⟨c, vs, q1, q2, q3⟩ := h1; rw [q1]; exact .base (.tup q2)
      · obtain ⟨c, vs, f, q1, q2, q3, q4⟩ := h1; rw [q1]; exact .base (.lst q3)
      · obtain ⟨c, vs, q1, q2, q3⟩ := h1
        rw [q1]
        rcases q2 with ⟨o, q2⟩ | ⟨o, its, n, q4, q5, _⟩
        · exact .base (.frz q2)
        · exact .kList q4 q5
      · obtain ⟨c, vs, q1, ⟨o, its, n, q2, q3, q4⟩, q5⟩ := h1; rw [q1]; exact .kTuple q2 q3
      · obtain ⟨c, kvs, f, q1, q2, q3, q4⟩ := h1
        rw [q1]
        rcases q3 with q3 | ⟨o, q3⟩
        · exact .base (.dK q3)
        · exact .fDict q3
    exact call_isi pins s σ H _ us Q I r ⟨v, .ty n, .type a, .type n, b, by rw [h2.1], .ty n, ty, kit_ty (subTy_kit ha e2), q _ H [] (Sm.refl H) val_bl .nil⟩
  · cases e
end
end DL
set_option Elab.async false
set_option linter.all false
set_option maxRecDepth 100000
set_option maxHeartbeats 2000000
namespace DL
open PySem PySem.Spec PyProof.Rows L2

/-! ### what a statement does -/
inductive Fl where
  | nx (e : En) | rt (d : D) | bk (e : En) | ct (e : En) | ex (c : Str) (e : En) | no
section
variable (K : PySem.W.Frag) (mg : Str → Option Value)
/-- Z: what is not to be changed -/
structure ER (Z : Hp) (env : En) (σ : L2.St) (H : Hp) (fps : Nat → List Addr) : Prop where
  len : env.length = σ.length
  val : ∀ i d, look env i = some d → ∃ v, σ[i]? = some (some v) ∧ Val K mg H d v (fps i)
  own : ∀ i d, env[i]? = some (.ow d) → (fps i).Nodup ∧ (∀ a ∈ fps i, Z a = none ∧ Mut (H a)) ∧ ∀ j d', j ≠ i → look env j = some d' → ∀ a ∈ fps i, a ∉ fps j
  keep : Sm Z H
def EO (Z : Hp) (env : En) (σ : L2.St) (H : Hp) : Prop := ∃ fps, ER K mg Z env σ H fps
def Go (W : WX) (Z : Hp) (D : Ends) (r : Fl) : Prop := match r with
  | .nx e => ∀ σ' H', EO K mg Z e σ' H' → D.nx σ' H'
  | .rt d => ∀ v H' fp, Sm Z H' → Val K mg H' d v fp → fp.Nodup → (∀ a ∈ fp, Z a = none ∧ Mut (H' a)) → D.rt v H'
  | .bk e => ∀ σ' H', EO K mg Z e σ' H' → D.bk σ' H'
  | .ct e => ∀ σ' H', EO K mg Z e σ' H' → D.ct σ' H'
  | .ex c e => ∀ C σ' H', mg c = some (.ref C) → EO K mg Z e σ' H' → W (.ref C) none σ' H'
  | .no => False
def tS (W : WX) (F : En → Fl) : TS := fun D σ H => ∃ Z env, EO K mg Z env σ H ∧ Go K mg W Z D (F env)
end
abbrev DS (X : Cx) (W : WX) (st : Stmt) (F : En → Fl) : Prop := PS X st (tS X.K X.mg W F)
abbrev DSs (X : Cx) (W : WX) (st : List Stmt) (F : En → Fl) : Prop := PSs X st (tS X.K X.mg W F)
theorem ps_weak {X : Cx} {e : Stmt} {t t' : TS} (h : PS X e t) (w : ∀ D σ H, t' D σ H → t D σ H) : PS X e t' := ⟨fun pins s σ H D I q => h.run pins s σ H D I (w D σ H q)⟩
theorem pss_weak {X : Cx} {e : List Stmt} {t t' : TS} (h : PSs X e t) (w : ∀ D σ H, t' D σ H → t D σ H) : PSs X e t' := ⟨fun pins s σ H D I q => h.run pins s σ H D I (w D σ H q)⟩

theorem look_ow {env : En} {i : Nat} {d : D} (h : env[i]? = some (.ow d)) : look env i = some d := by simp [look, h]
theorem look_sh {env : En} {i : Nat} {d : D} (h : env[i]? = some (.sh d)) : look env i = some d := by simp [look, h]
theorem look_set {env : En} {i j : Nat} {s : Sl} (hi : i < env.length) : look (env.set i s) j = if j = i then s.val else look env j := by
  unfold look
  by_cases e : j = i
  · subst e; rw [List.getElem?_set_self hi]; simp
  · rw [List.getElem?_set_ne (Ne.symm e), if_neg e]
theorem look_lt {env : En} {i : Nat} {d : D} (h : look env i = some d) : i < env.length := by
  unfold look at h
  cases q : env[i]? with
  | none => rw [q] at h; cases h
  | some s => exact (List.getElem?_eq_some_iff.mp q).1
section
variable {K : PySem.W.Frag} {mg : Str → Option Value} {Z H H' : Hp} {env : En} {σ : L2.St} {fps : Nat → List Addr} {W : WX} {D' : Ends}
theorem ER.sm (E : ER K mg Z env σ H fps) (e : Sm H H') : ER K mg Z env σ H' fps where
  len := E.len
  val := fun i d h => by
    obtain ⟨v, h1, h2⟩ := E.val i d h
    exact ⟨v, h1, h2.sm e⟩
  own := fun i d h => by
    obtain ⟨h1, h2, h3⟩ := E.own i d h
    exact ⟨h1, fun a ha => ⟨(h2 a ha).1, mut_sm e (h2 a ha).2⟩, h3⟩
  keep := E.keep.trans e
theorem EO.sm (E : EO K mg Z env σ H) (e : Sm H H') : EO K mg Z env σ H' := let ⟨f, h⟩ := E; ⟨f, h.sm e⟩
def ofSlots (env : En) (fps : Nat → List Addr) (a : Addr) : Prop := ∃ i d, look env i = some d ∧ a ∈ fps i
theorem ER.penv (E : ER K mg Z env σ H fps) : PEnv K mg (ofSlots env fps) env σ H := ⟨E.len, fun i d h => by
  obtain ⟨v, h1, h2⟩ := E.val i d h
  exact ⟨v, _, h1, h2, fun a ha => ⟨i, d, h, ha⟩⟩⟩
/-- a new value comes to slot i -/
theorem ER.put (E : ER K mg Z env σ H fps) {i : Nat} {d : D} {v : V} {fp : List Addr} (hi : i < env.length) (h : Val K mg H d v fp) (n : fp.Nodup) (f : ∀ a ∈ fp, Z a = none ∧ Mut (H a)) (ap : ∀ j d', j ≠ i → look env j = some d' → ∀ a ∈ fp, a ∉ fps j) :
    ER K mg Z (env.set i (.ow d)) (σ.set i (some v)) H (fun j => if j = i then fp else fps j) where
  len := by simp [E.len]
  val := fun j e h' => by
    rw [look_set hi] at h'
    by_cases c : j = i
    · subst c
      rw [if_pos rfl] at h'
      cases h'
      exact ⟨v, List.getElem?_set_self (by rw [← E.len]; exact hi), by simpa using h⟩
    · rw [if_neg c] at h'
      obtain ⟨u, h1, h2⟩ := E.val j e h'
      exact ⟨u, by rw [List.getElem?_set_ne (Ne.symm c)]; exact h1, by simpa [c] using h2⟩
  own := fun j e h' => by
    by_cases c : j = i
    · subst c
      simp only [if_true]
      refine ⟨n, f, fun k d' hk hl a ha => ?_⟩
      rw [look_set hi, if_neg hk] at hl
      rw [if_neg hk]
      exact ap k d' hk hl a ha
    · rw [List.getElem?_set_ne (Ne.symm c)] at h'
      obtain ⟨h1, h2, h3⟩ := E.own j e h'
      rw [if_neg c]
      refine ⟨h1, h2, fun k d' hk hl a ha => ?_⟩
      by_cases q : k = i
      · subst q
        simp only [if_true]
        exact fun z => ap j e c (look_ow h') a z ha
      · rw [look_set hi, if_neg q] at hl
        rw [if_neg q]
        exact h3 k d' hk hl a ha
  keep := E.keep
/-- a value that is shared -/
theorem ER.share (E : ER K mg Z env σ H fps) {i : Nat} {d : D} {v : V} {fp : List Addr} (hi : i < env.length) (h : Val K mg H d v fp) (ap : ∀ j d', j ≠ i → env[j]? = some (.ow d') → ∀ a ∈ fps j, a ∉ fp) :
    ER K mg Z (env.set i (.sh d)) (σ.set i (some v)) H (fun j => if j = i then fp else fps j) where
  len := by simp [E.len]
  val := fun j e h' => by
    rw [look_set hi] at h'
    by_cases c : j = i
    · subst c
      rw [if_pos rfl] at h'
      cases h'
      exact ⟨v, List.getElem?_set_self (by rw [← E.len]; exact hi), by simpa using h⟩
    · rw [if_neg c] at h'
      obtain ⟨u, h1, h2⟩ := E.val j e h'
      exact ⟨u, by rw [List.getElem?_set_ne (Ne.symm c)]; exact h1, by simpa [c] using h2⟩
  own := fun j e h' => by
    by_cases c : j = i
    · subst c
      rw [List.getElem?_set_self hi] at h'
      cases h'
    · rw [List.getElem?_set_ne (Ne.symm c)] at h'
      obtain ⟨h1, h2, h3⟩ := E.own j e h'
      rw [if_neg c]
      refine ⟨h1, h2, fun k d' hk hl a ha => ?_⟩
      by_cases q : k = i
      · subst q
        simp only [if_true]
        exact ap j e c h' a ha
      · rw [look_set hi, if_neg q] at hl
        rw [if_neg q]
        exact h3 k d' hk hl a ha
  keep := E.keep
/-- a slot's own value is its own no longer -/
def freeze (i : Nat) (env : En) : En := match env[i]? with
  | some (.ow d) => env.set i (.sh d)
  | _ => env
theorem look_freeze {env : En} {i j : Nat} : look (freeze i env) j = look env j := by
  unfold freeze
  split
  · rename_i d h
    have hi := (List.getElem?_eq_some_iff.mp h).1
    rw [look_set hi]
    split
    · rename_i c; subst c; rw [look_ow h]; rfl
    · rfl
  · rfl
theorem ow_freeze {env : En} {i j : Nat} {d : D} (h : (freeze i env)[j]? = some (.ow d)) : env[j]? = some (.ow d) ∧ j ≠ i := by
  unfold freeze at h
  split at h
  · rename_i d' h'
    have hi := (List.getElem?_eq_some_iff.mp h').1
    by_cases c : j = i
    · subst c; rw [List.getElem?_set_self hi] at h; cases h
    · rw [List.getElem?_set_ne (Ne.symm c)] at h; exact ⟨h, c⟩
  · rename_i h'
    exact ⟨h, fun c => by subst c; exact h' d h⟩
theorem freeze_length {env : En} {i : Nat} : (freeze i env).length = env.length := by
  unfold freeze; split <;> simp
theorem ER.freeze (E : ER K mg Z env σ H fps) (i : Nat) : ER K mg Z (freeze i env) σ H fps where
  len := by rw [freeze_length]; exact E.len
  val := fun j d h => by rw [look_freeze] at h; exact E.val j d h
  own := fun j d h => by
    obtain ⟨h1, _⟩ := ow_freeze h
    obtain ⟨q1, q2, q3⟩ := E.own j d h1
    exact ⟨q1, q2, fun k d' hk hl => by rw [look_freeze] at hl; exact q3 k d' hk hl⟩
  keep := E.keep

/-! ### expressions within statements -/
/-- what an expression gives, taken on -/
def onE {a : Type} (r : R a) (env : En) (k : a → Fl) : Fl := match r with
  | .ok x => k x
  | .ex c => .ex c env
  | .no => .no
theorem Go.out {a : Type} {r : R a} {k : a → Fl} (E : EO K mg Z env σ H) (g : Go K mg W Z D' (onE r env k)) : Out mg W σ H r fun x => Go K mg W Z D' (k x) := by
  cases r with
  | ok x => exact g
  | ex c => exact fun C H' m e => g C σ H' m (E.sm e)
  | no => exact g
end

section
variable {X : Cx} {W : WX} {pos : Pos} {st : Stmt} {rest : List Stmt} {F G : En → Fl}
def sNil (env : En) : Fl := .nx env
def sSeq (F G : En → Fl) (env : En) : Fl := match F env with
  | .nx e => G e
  | r => r
theorem dss_nil : DSs X W [] sNil := pss_weak pss_nil fun D σ H ⟨Z, env, E, g⟩ => g σ H E
theorem dss_cons (h : DS X W st F) (t : DSs X W rest G) : DSs X W (st :: rest) (sSeq F G) := pss_weak (pss_cons h t) fun D σ H ⟨Z, env, E, g⟩ => by
  refine ⟨Z, env, E, ?_⟩
  unfold sSeq at g
  cases q : F env with
  | nx e => rw [q] at g; exact fun σ' H' E' => ⟨Z, e, E', g⟩
  | rt d => rw [q] at g; exact g
  | bk e => rw [q] at g; exact g
  | ct e => rw [q] at g; exact g
  | ex c e => rw [q] at g; exact g
  | no => rw [q] at g; exact g
theorem dss_one (h : DS X W st F) : DSs X W [st] F := pss_one h
def sBreak (env : En) : Fl := .bk env
def sCont (env : En) : Fl := .ct env
theorem ds_pass : DS X W (.Pass pos) sNil := ps_weak ps_pass fun D σ H ⟨Z, env, E, g⟩ => g σ H E
theorem ds_break : DS X W (.Break pos) sBreak := ps_weak ps_break fun D σ H ⟨Z, env, E, g⟩ => g σ H E
theorem ds_continue : DS X W (.Continue pos) sCont := ps_weak ps_continue fun D σ H ⟨Z, env, E, g⟩ => g σ H E
/-- an expression's value is dropped -/
def sDrop (f : En → R D) (env : En) : Fl := onE (f env) env fun _ => .nx env
theorem ds_expr {e : Expr} {f : En → R D} (h : DE X W e f) (hs : swapsWith e none pos.line X.env = pure false := by rfl) : DS X W (.Expr e pos) (sDrop f) := ps_weak (ps_expr h hs) fun D σ H ⟨Z, env, E, g⟩ => by
  have E' := E
  obtain ⟨fps, E⟩ := E
  exact ⟨_, env, E.penv, (Go.out E' g).imp fun d g v H' fp e hv hp => g σ H' (E'.sm e)⟩
/-- x = e, e's value new -/
def sSetF (i : Nat) (f : En → R D) (env : En) : Fl := onE (f env) env fun d => if i < env.length then .nx (env.set i (.ow d)) else .no
theorem ds_setF {i : Nat} {x : Str} {e : Expr} {pos' : Pos} {f : En → R D} (h : DF X W e f) (hN : X.N.Nodup) (hi : X.N[i]? = some x := by rfl) (hx : Loc X.env.scope x := by first | exact Or.inl rfl | exact Or.inr rfl) (hs : swapsWith e (some (.Name x pos')) pos.line X.env = pure false := by rfl)
    (hf : X.fn x = true ∨ X.env.scope.names.lookup x = some .local := by first | exact .inl rfl | exact .inr rfl | assumption) : DS X W (.Assign [.Name x pos'] e pos) (sSetF i f) := ps_weak (ps_set hN hi hx h hs hf) fun D σ H ⟨Z, env, E, g⟩ => by
  have E' := E
  obtain ⟨fps, E⟩ := E
  refine ⟨_, env, E.penv, (Go.out E' g).imp fun d g v H' fp e hv hn hp => ?_⟩
  split at g
  · rename_i hl
    have E2 := E.sm e
    refine g _ _ ⟨_, E2.put hl hv hn (fun a ha => ⟨E.keep.back (hp a ha).1, (hp a ha).2⟩) fun j d' _ hl' a ha z => ?_⟩
    obtain ⟨u, _, hu⟩ := E.val j d' hl'
    exact hu.gone z (hp a ha).1
  · exact g.elim
/-- x = e, a value that can't be changed -/
def sSetI (i : Nat) (f : En → R D) (env : En) : Fl := onE (f env) env fun d => if imm d = true ∧ i < env.length then .nx (env.set i (.ow d)) else .no
theorem ds_setI {i : Nat} {x : Str} {e : Expr} {pos' : Pos} {f : En → R D} (h : DE X W e f) (hN : X.N.Nodup) (hi : X.N[i]? = some x := by rfl) (hx : Loc X.env.scope x := by first | exact Or.inl rfl | exact Or.inr rfl) (hs : swapsWith e (some (.Name x pos')) pos.line X.env = pure false := by rfl)
    (hf : X.fn x = true ∨ X.env.scope.names.lookup x = some .local := by first | exact .inl rfl | exact .inr rfl | assumption) : DS X W (.Assign [.Name x pos'] e pos) (sSetI i f) := ps_weak (ps_set hN hi hx h hs hf) fun D σ H ⟨Z, env, E, g⟩ => by
  have E' := E
  obtain ⟨fps, E⟩ := E
  refine ⟨_, env, E.penv, (Go.out E' g).imp fun d g v H' fp e hv hp => ?_⟩
  split at g
  · rename_i hl
    have hz := Val.imm d hv hl.1
    subst hz
    exact g _ _ ⟨_, (E.sm e).put hl.2 hv List.nodup_nil nf fun _ _ _ _ => nf⟩
  · exact g.elim
/-- x = y: both hold it -/
def sSetN (i j : Nat) (env : En) : Fl := match look env j with
  | some d => if i < env.length ∧ i ≠ j then .nx ((freeze j env).set i (.sh d)) else .no
  | none => .no
theorem ds_setN {i j : Nat} {x y : Str} {py pos' : Pos} (h : PE X (.Name y py) (tVar j)) (hN : X.N.Nodup) (hi : X.N[i]? = some x := by rfl) (hx : Loc X.env.scope x := by first | exact Or.inl rfl | exact Or.inr rfl) (hs : swapsWith (.Name y py) (some (.Name x pos')) pos.line X.env = pure false := by rfl)
    (hf : X.fn x = true ∨ X.env.scope.names.lookup x = some .local := by first | exact .inl rfl | exact .inr rfl | assumption) : DS X W (.Assign [.Name x pos'] (.Name y py) pos) (sSetN i j) := ps_weak (ps_set hN hi hx h hs hf) fun D σ H ⟨Z, env, E, g⟩ => by
  obtain ⟨fps, E⟩ := E
  unfold sSetN at g
  split at g
  · rename_i d hd
    split at g
    · rename_i hl
      obtain ⟨v, h1, h2⟩ := E.val j d hd
      refine ⟨v, h1, g _ _ ⟨_, (E.freeze j).share (by rw [freeze_length]; exact hl.1) h2 fun k d' hk ho a ha => ?_⟩⟩
      obtain ⟨q1, q2⟩ := ow_freeze ho
      exact (E.own k d' q1).2.2 j d (Ne.symm q2) hd a ha
    · exact g.elim
  · exact g.elim
/-- the slots that are no one's own -/
def hideS : Sl → Sl
  | .ow _ => .un
  | s => s
theorem look_hide {env : En} {i : Nat} {d : D} (h : look (env.map hideS) i = some d) : env[i]? = some (.sh d) := by
  unfold look at h
  rw [List.getElem?_map] at h
  cases q : env[i]? with
  | none => rw [q] at h; cases h
  | some s =>
    rw [q] at h
    cases s <;> simp [hideS] at h
    subst h; rfl
theorem ER.hide {K : PySem.W.Frag} {mg : Str → Option Value} {Z H : Hp} {env : En} {σ : L2.St} {fps : Nat → List Addr} (E : ER K mg Z env σ H fps) : PEnv K mg (fun a => ∃ i d, env[i]? = some (.sh d) ∧ a ∈ fps i) (env.map hideS) σ H :=
  ⟨by simp [E.len], fun i d h => by
    have q := look_hide h
    obtain ⟨v, h1, h2⟩ := E.val i d (look_sh q)
    exact ⟨v, _, h1, h2, fun a ha => ⟨i, d, q, ha⟩⟩⟩
/-- what is of shared slots or new lies apart from the own ones -/
theorem ER.apart {K : PySem.W.Frag} {mg : Str → Option Value} {Z H : Hp} {env : En} {σ : L2.St} {fps : Nat → List Addr} (E : ER K mg Z env σ H fps) {fp : List Addr} (h : ∀ a ∈ fp, (∃ i d, env[i]? = some (.sh d) ∧ a ∈ fps i) ∨ H a = none) {j : Nat} {d' : D} (ho : env[j]? = some (.ow d')) :
    ∀ a ∈ fps j, a ∉ fp := fun a ha z => by
  rcases h a z with ⟨i, d, q1, q2⟩ | q
  · have c : i ≠ j := fun c => by subst c; rw [q1] at ho; cases ho
    exact (E.own j d' ho).2.2 i d c (look_sh q1) a ha q2
  · obtain ⟨u, _, hu⟩ := E.val j d' (look_ow ho)
    exact hu.gone ha q
/-- x = e, e of shared values alone -/
def sSetS (i : Nat) (f : En → R D) (env : En) : Fl := onE (f (env.map hideS)) env fun d => if i < env.length then .nx (env.set i (.sh d)) else .no
theorem ds_setS {i : Nat} {x : Str} {e : Expr} {pos' : Pos} {f : En → R D} (h : DE X W e f) (hN : X.N.Nodup) (hi : X.N[i]? = some x := by rfl) (hx : Loc X.env.scope x := by first | exact Or.inl rfl | exact Or.inr rfl) (hs : swapsWith e (some (.Name x pos')) pos.line X.env = pure false := by rfl)
    (hf : X.fn x = true ∨ X.env.scope.names.lookup x = some .local := by first | exact .inl rfl | exact .inr rfl | assumption) : DS X W (.Assign [.Name x pos'] e pos) (sSetS i f) := ps_weak (ps_set hN hi hx h hs hf) fun D σ H ⟨Z, env, E, g⟩ => by
  have E' := E
  obtain ⟨fps, E⟩ := E
  refine ⟨_, _, E.hide, (Go.out E' g).imp fun d g v H' fp e hv hp => ?_⟩
  split at g
  · rename_i hl
    exact g _ _ ⟨_, (E.sm e).share hl hv fun j d' _ ho => E.apart hp ho⟩
  · exact g.elim
/-! ### return -/
def sRet (f : En → R D) (env : En) : Fl := onE (f env) env fun d => .rt d
theorem ds_ret {e : Expr} {f : En → R D} (h : DF X W e f) : DS X W (.Return (some e) pos) (sRet f) := ps_weak (ps_ret h) fun D σ H ⟨Z, env, E, g⟩ => by
  have E' := E
  obtain ⟨fps, E⟩ := E
  exact ⟨_, env, E.penv, (Go.out E' g).imp fun d g v H' fp e hv hn hp => g v H' fp (E.keep.trans e) hv hn fun a ha => ⟨E.keep.back (hp a ha).1, (hp a ha).2⟩⟩
def sRetN (_ : En) : Fl := .rt .non
theorem ds_retN : DS X W (.Return none pos) sRetN := ps_weak ps_retN fun D σ H ⟨Z, env, ⟨fps, E⟩, g⟩ => g .non H [] E.keep val_non List.nodup_nil nf
/-- a slot's own value is handed back -/
def sRetV (i : Nat) (env : En) : Fl := match env[i]? with
  | some (.ow d) => .rt d
  | some (.sh d) => if imm d = true then .rt d else .no
  | _ => .no
theorem ds_retV {i : Nat} {x : Str} {px : Pos} (h : PE X (.Name x px) (tVar i)) : DS X W (.Return (some (.Name x px)) pos) (sRetV i) := ps_weak (ps_ret h) fun D σ H ⟨Z, env, ⟨fps, E⟩, g⟩ => by
  unfold sRetV at g
  split at g
  · rename_i d hd
    obtain ⟨v, h1, h2⟩ := E.val i d (look_ow hd)
    obtain ⟨q1, q2, _⟩ := E.own i d hd
    exact ⟨v, h1, g v H (fps i) E.keep h2 q1 q2⟩
  · rename_i d hd
    split at g
    · rename_i hi
      obtain ⟨v, h1, h2⟩ := E.val i d (look_sh hd)
      have hz := Val.imm d h2 hi
      rw [hz] at h2
      exact ⟨v, h1, g v H [] E.keep h2 List.nodup_nil nf⟩
    · exact g.elim
  · exact g.elim
/-! ### if -/
def sIf (t : En → R Bool) (F G : En → Fl) (env : En) : Fl := onE (t env) env fun b => if b = true then F env else G env
theorem ds_if {c : Expr} {a b : List Stmt} {t : En → R Bool} (hc : DT X W c t) (ha : DSs X W a F) (hb : DSs X W b G) : DS X W (.If c a b pos) (sIf t F G) := ps_weak (ps_if hc ha hb) fun D σ H ⟨Z, env, E, g⟩ => by
  have E' := E
  obtain ⟨fps, E⟩ := E
  refine ⟨_, env, E.penv, (Go.out E' g).imp fun b g H' e => ?_⟩
  cases b with
  | true => simp only [if_true] at g ⊢; exact ⟨Z, env, E'.sm e, g⟩
  | false => simp only [Bool.false_eq_true, if_false] at g ⊢; exact ⟨Z, env, E'.sm e, g⟩
/-! ### raise -/
def sRaise (c : Str) (env : En) : Fl := .ex c env
theorem ds_raise {x m : Str} {C : Addr} {j : Nat} {p p2 pos2 : Pos} (tk : Takes X W) (q : PySem.W.excIn X.K C [.type "ValueError", .type "Exception", .type "BaseException", .type "object"] "ValueError.__new__" = true) (gC : X.mg x = some (.ref C)) (kC : PySem.W.keepIn X.K (.ref C) = true)
    (r : Raises X (.ref C)) (hc : X.calm = true := by rfl) (hg : Gl X x := by rfl) (hdb : (x == ("__debug__" : Str)) = false := by decide) : DS X W (.Raise (some (.Call (.Name x p) [.Constant (.str m) j p2] [] pos)) none pos2) (sRaise x) :=
  ps_weak (ps_raise hc tk (pmk_own PySem.F.excBase_ValueError q gC kC r hg hdb)) fun D σ H ⟨Z, env, E, g⟩ => g C σ H gC E
end
end DL
set_option Elab.async false
set_option linter.all false
set_option maxRecDepth 100000
set_option maxHeartbeats 2000000
namespace DL
open PySem PySem.Spec PyProof.Rows L2

section
variable {K : PySem.W.Frag} {mg : Str → Option Value} {Z H H' : Hp} {env : En} {σ : L2.St} {fps : Nat → List Addr} {W : WX} {D' : Ends}
theorem mut_ok {H : Hp} {a : Addr} (m : Mut (H a)) : (∀ xs, H a ≠ some (.tup xs)) ∧ (∀ o xs, H a ≠ some (.frz o xs)) ∧ ∀ x, H a ≠ some (.own x) :=
  ⟨fun xs e => by rw [e] at m; exact m, fun o xs e => by rw [e] at m; exact m, fun x e => by rw [e] at m; exact m⟩
/-- slot i's own object at a is written -/
theorem ER.mut (E : ER K mg Z env σ H fps) {i : Nat} {d d' : D} {a : Addr} {o : HO} {v : V} {fp' : List Addr} (hi : env[i]? = some (.ow d)) (ha : a ∈ fps i) (mo : Mut (some o)) (hv : σ[i]? = some (some v)) (h : Val K mg (upd H a o) d' v fp') (n : fp'.Nodup)
    (hf : ∀ b ∈ fp', b ∈ fps i ∨ (Z b = none ∧ Mut (H b) ∧ ∀ j d'', look env j = some d'' → b ∉ fps j)) : ER K mg Z (env.set i (.ow d')) σ (upd H a o) (fun j => if j = i then fp' else fps j) := by
  obtain ⟨o1, o2, o3⟩ := E.own i d hi
  have hil : i < env.length := (List.getElem?_eq_some_iff.mp hi).1
  obtain ⟨m1, m2, m3⟩ := mut_ok (o2 a ha).2
  have mutu : ∀ b, Mut (H b) → Mut (upd H a o b) := fun b m => by
    by_cases c : b = a
    · subst c; rw [upd_same]; exact mo
    · rw [upd_ne c]; exact m
  refine ⟨by simp [E.len], fun j e h' => ?_, fun j e h' => ?_, fun b u e => ?_⟩
  · rw [look_set hil] at h'
    by_cases c : j = i
    · subst c
      rw [if_pos rfl] at h'
      cases h'
      exact ⟨v, hv, by simpa using h⟩
    · rw [if_neg c] at h'
      obtain ⟨u, h1, h2⟩ := E.val j e h'
      refine ⟨u, h1, ?_⟩
      simp only [c, if_false]
      exact Val.kp e h2 (Kp.upd (o3 j e c h' a ha) m1 m2 m3)
  · by_cases c : j = i
    · subst c
      simp only [if_true]
      refine ⟨n, fun b hb => ?_, fun k d'' hk hl b hb => ?_⟩
      · rcases hf b hb with z | ⟨z1, z2, z3⟩
        · exact ⟨(o2 b z).1, mutu b (o2 b z).2⟩
        · exact ⟨z1, mutu b z2⟩
      · rw [look_set hil, if_neg hk] at hl
        rw [if_neg hk]
        rcases hf b hb with z | ⟨z1, z2, z3⟩
        · exact o3 k d'' hk hl b z
        · exact z3 k d'' hl
    · rw [List.getElem?_set_ne (Ne.symm c)] at h'
      obtain ⟨q1, q2, q3⟩ := E.own j e h'
      rw [if_neg c]
      refine ⟨q1, fun b hb => ⟨(q2 b hb).1, mutu b (q2 b hb).2⟩, fun k d'' hk hl b hb => ?_⟩
      by_cases q : k = i
      · subst q
        simp only [if_true]
        intro z
        rcases hf b z with z | ⟨z1, z2, z3⟩
        · exact o3 j e c (look_ow h') b z hb
        · exact z3 j e (look_ow h') hb
      · rw [look_set hil, if_neg q] at hl
        rw [if_neg q]
        exact q3 k d'' hk hl b hb
  · have c : b ≠ a := fun c => by subst c; rw [(o2 b ha).1] at e; cases e
    rw [upd_ne c]
    exact E.keep b u e
/-- what is new is in no slot -/
theorem ER.new (E : ER K mg Z env σ H fps) {b : Addr} (hb : H b = none) : Z b = none ∧ ∀ j d'', look env j = some d'' → b ∉ fps j :=
  ⟨E.keep.back hb, fun j d'' hl z => by
    obtain ⟨u, _, hu⟩ := E.val j d'' hl
    exact hu.gone z hb⟩
/-- a list that is a slot's own -/
theorem ER.list (E : ER K mg Z env σ H fps) {i : Nat} {xs : List D} (hi : env[i]? = some (.ow (.lst xs))) : ∃ a vs f, σ[i]? = some (some (.ref a)) ∧ fps i = a :: f ∧ H a = some (.lst vs) ∧ VAll K mg H xs vs f ∧ (a :: f).Nodup := by
  obtain ⟨v, h1, h2⟩ := E.val i _ (look_ow hi)
  simp only [Val] at h2
  obtain ⟨a, vs, f, e1, e2, e3, e4⟩ := h2
  subst e1
  exact ⟨a, vs, f, h1, e2, e3, e4, by rw [← e2]; exact (E.own i _ hi).1⟩
end

section
variable {X : Cx} {W : WX} {pos cpos apos px : Pos} {x : Str}
/-! ### xs.append(e) -/
def appL (i : Nat) (xs : List D) (d : D) (env : En) : Fl := if xs.length < sizeLine then .nx (env.set i (.ow (.lst (xs ++ [d])))) else .no
def onList (i : Nat) (env : En) (k : List D → Fl) : Fl := match env[i]? with
  | some (.ow (.lst xs)) => k xs
  | _ => .no
theorem Go.list {K : PySem.W.Frag} {mg : Str → Option Value} {Z : Hp} {D' : Ends} {env : En} {i : Nat} {k : List D → Fl} (g : Go K mg W Z D' (onList i env k)) : ∃ xs, env[i]? = some (.ow (.lst xs)) ∧ Go K mg W Z D' (k xs) := by
  unfold onList at g
  split at g
  · rename_i xs h; exact ⟨xs, h, g⟩
  · exact g.elim
def sAppF (i : Nat) (f : En → R D) (env : En) : Fl := onList i env fun xs => onE (f env) env fun d => appL i xs d env
def sAppI (i : Nat) (f : En → R D) (env : En) : Fl := onList i env fun xs => onE (f env) env fun d => if imm d = true then appL i xs d env else .no
theorem st_app {K : PySem.W.Frag} {mg : Str → Option Value} {Z H H1 : Hp} {env : En} {σ : L2.St} {fps : Nat → List Addr} {D' : Ends} {i : Nat} {d : D} {a : Addr} {vs : List V} {f fp : List Addr} {y : V} {xs : List D} (E : ER K mg Z env σ H fps) (hi : env[i]? = some (.ow (.lst xs)))
    (s1 : σ[i]? = some (some (.ref a))) (ef : fps i = a :: f) (ha : H a = some (.lst vs)) (hvs : VAll K mg H xs vs f) (e : Sm H H1) (hy : Val K mg H1 d y fp) (n : fp.Nodup) (hp : ∀ b ∈ fp, H b = none ∧ Mut (H1 b)) (g : Go K mg W Z D' (appL i xs d env)) :
    rAppend (.ref a) [y] H1 fun _ H2 => D'.nx σ H2 := by
  unfold appL at g
  split at g
  · rename_i hl
    refine ⟨a, vs, y, rfl, rfl, e _ _ ha, by rw [hvs.length]; exact hl, g σ _ ⟨_, (E.sm e).mut (a := a) (fp' := a :: (f ++ fp)) hi (by rw [ef]; exact List.mem_cons_self) trivial s1 ?_ ?_ ?_⟩⟩
    · have n1 := (E.own i _ hi).1
      rw [ef] at n1
      have kp : ∀ {fq}, a ∉ fq → Kp fq H1 (upd H1 a (.lst (vs ++ [y]))) := fun hq => Kp.upd hq (fun xs z => by rw [e _ _ ha] at z; cases z) (fun o xs z => by rw [e _ _ ha] at z; cases z) (fun x z => by rw [e _ _ ha] at z; cases z)
      refine val_lst upd_same ((VAll.kp _ (hvs.sm e) (kp (List.nodup_cons.mp n1).1)).append (VAll.one (Val.kp _ hy (kp fun z => ?_))))
      have := (hp a z).1
      rw [ha] at this; cases this
    · have n1 := (E.own i _ hi).1
      rw [ef] at n1
      have df : ∀ b ∈ a :: f, b ∉ fp := fun b hb z => by
        have q := (hp b z).1
        obtain ⟨u, _, hu⟩ := E.val i _ (look_ow hi)
        exact hu.gone (by rw [ef]; exact hb) q
      rw [← List.cons_append]
      exact List.nodup_append.mpr ⟨n1, n, fun b hb c hc z => df b hb (z ▸ hc)⟩
    · intro b hb
      rw [← List.cons_append] at hb
      rcases List.mem_append.mp hb with z | z
      · exact .inl (by rw [ef]; exact z)
      · obtain ⟨q1, q2⟩ := E.new (hp b z).1
        exact .inr ⟨q1, (hp b z).2, q2⟩
  · exact g.elim
theorem ds_appF {i : Nat} {e : Expr} {f : En → R D} (h : DF X W e f) (hx : PE X (.Name x px) (tVar i)) (hbase : attributeBase (.Name x px) "append" X.env (eval (.Name x px) X.env) = eval (.Name x px) X.env := by rfl)
    (hfew : ((backTo cpos (starEach [e] X.env)).all (fun x => !x.1) && (backToKw cpos (keywordEach [] X.env)).all (fun x => x.1.isSome)
      && decide (([e] : List Expr).length + ([] : List Keyword).length + (if ([] : List Keyword).isEmpty then 0 else 1) < 30)) = true := by rfl)
    (hline : (apos.endLine == cpos.line) = true := by rfl) (hs1 : starEach [e] X.env = (false, eval e X.env) :: starEach [] X.env := by rfl) (hplain : (backTo cpos (starEach [] X.env)).any (·.1) = false := by rfl)
    (hs : swapsWith (.Call (.Attribute (.Name x px) "append" apos) [e] [] cpos) none pos.line X.env = pure false := by rfl) : DS X W (.Expr (.Call (.Attribute (.Name x px) "append" apos) [e] [] cpos) pos) (sAppF i f) :=
  ps_weak (ps_expr (pe_bm PySem.F.plainAttrs_list PySem.F.slot_list_append PySem.F.type_list_append mt_append hx (pa_cons h pa_nil hs1) hbase hfew hline hs1 hplain) hs) fun D σ H ⟨Z, env, E, g⟩ => by
  have E' := E
  obtain ⟨fps, E⟩ := E
  obtain ⟨xs, hi, g⟩ := Go.list g
  obtain ⟨a, vs, fl, s1, ef, ha, hvs, nd⟩ := E.list hi
  refine ⟨_, s1, .inl ⟨rfl, vs, .inl (.inl ha)⟩, ?_⟩
  exact ⟨_, env, E.penv, (Go.out E' g).imp fun d g v H' fp e hv hn hp => st_app E hi s1 ef ha hvs e hv hn hp g⟩
theorem ds_appI {i : Nat} {e : Expr} {f : En → R D} (h : DE X W e f) (hx : PE X (.Name x px) (tVar i)) (hbase : attributeBase (.Name x px) "append" X.env (eval (.Name x px) X.env) = eval (.Name x px) X.env := by rfl)
    (hfew : ((backTo cpos (starEach [e] X.env)).all (fun x => !x.1) && (backToKw cpos (keywordEach [] X.env)).all (fun x => x.1.isSome)
      && decide (([e] : List Expr).length + ([] : List Keyword).length + (if ([] : List Keyword).isEmpty then 0 else 1) < 30)) = true := by rfl)
    (hline : (apos.endLine == cpos.line) = true := by rfl) (hs1 : starEach [e] X.env = (false, eval e X.env) :: starEach [] X.env := by rfl) (hplain : (backTo cpos (starEach [] X.env)).any (·.1) = false := by rfl)
    (hs : swapsWith (.Call (.Attribute (.Name x px) "append" apos) [e] [] cpos) none pos.line X.env = pure false := by rfl) : DS X W (.Expr (.Call (.Attribute (.Name x px) "append" apos) [e] [] cpos) pos) (sAppI i f) :=
  ps_weak (ps_expr (pe_bm PySem.F.plainAttrs_list PySem.F.slot_list_append PySem.F.type_list_append mt_append hx (pa_cons h pa_nil hs1) hbase hfew hline hs1 hplain) hs) fun D σ H ⟨Z, env, E, g⟩ => by
  have E' := E
  obtain ⟨fps, E⟩ := E
  obtain ⟨xs, hi, g⟩ := Go.list g
  obtain ⟨a, vs, fl, s1, ef, ha, hvs, nd⟩ := E.list hi
  refine ⟨_, s1, .inl ⟨rfl, vs, .inl (.inl ha)⟩, ?_⟩
  refine ⟨_, env, E.penv, (Go.out E' g).imp fun d g v H' fp e hv hp => ?_⟩
  split at g
  · rename_i hm
    have hz := Val.imm d hv hm
    subst hz
    exact st_app E hi s1 ef ha hvs e hv List.nodup_nil nf g
  · exact g.elim
/-! ### xs.extend(e) -/
def extL (i : Nat) (xs : List D) (d : D) (env : En) : Fl := match d with
  | .lst zs => if xs.length + zs.length ≤ sizeLine then .nx (env.set i (.ow (.lst (xs ++ zs)))) else .no
  | _ => .no
def sExtI (i : Nat) (f : En → R D) (env : En) : Fl := onList i env fun xs => onE (f env) env fun d => if immTop d = true then extL i xs d env else .no
theorem ds_extI {i : Nat} {e : Expr} {f : En → R D} (h : DE X W e f) (hx : PE X (.Name x px) (tVar i)) (hbase : attributeBase (.Name x px) "extend" X.env (eval (.Name x px) X.env) = eval (.Name x px) X.env := by rfl)
    (hfew : ((backTo cpos (starEach [e] X.env)).all (fun x => !x.1) && (backToKw cpos (keywordEach [] X.env)).all (fun x => x.1.isSome)
      && decide (([e] : List Expr).length + ([] : List Keyword).length + (if ([] : List Keyword).isEmpty then 0 else 1) < 30)) = true := by rfl)
    (hline : (apos.endLine == cpos.line) = true := by rfl) (hs1 : starEach [e] X.env = (false, eval e X.env) :: starEach [] X.env := by rfl) (hplain : (backTo cpos (starEach [] X.env)).any (·.1) = false := by rfl)
    (hs : swapsWith (.Call (.Attribute (.Name x px) "extend" apos) [e] [] cpos) none pos.line X.env = pure false := by rfl) : DS X W (.Expr (.Call (.Attribute (.Name x px) "extend" apos) [e] [] cpos) pos) (sExtI i f) :=
  ps_weak (ps_expr (pe_bm PySem.F.plainAttrs_list PySem.F.slot_list_extend PySem.F.type_list_extend mt_extend hx (pa_cons h pa_nil hs1) hbase hfew hline hs1 hplain) hs) fun D σ H ⟨Z, env, E, g⟩ => by
  have E' := E
  obtain ⟨fps, E⟩ := E
  obtain ⟨xs, hi, g⟩ := Go.list g
  obtain ⟨a, vs, fl, s1, ef, ha, hvs, nd⟩ := E.list hi
  refine ⟨_, s1, .inl ⟨rfl, vs, .inl (.inl ha)⟩, ?_⟩
  refine ⟨_, env, E.penv, (Go.out E' g).imp fun d g v H' fp e hv hp => ?_⟩
  split at g
  · rename_i hm
    unfold extL at g
    split at g
    · rename_i zs
      split at g
      · rename_i hl
        simp only [Val] at hv
        obtain ⟨b, us, f2, e1, e2, h1, h2⟩ := hv
        have hz := VAll.imm _ h2 hm
        subst hz
        have n1 := nd
        have kp : ∀ {fq}, a ∉ fq → Kp fq H' (upd H' a (.lst (vs ++ us))) := fun hq => Kp.upd hq (fun xs z => by rw [e _ _ ha] at z; cases z) (fun o xs z => by rw [e _ _ ha] at z; cases z) (fun x z => by rw [e _ _ ha] at z; cases z)
        refine ⟨a, b, vs, us, rfl, by rw [e1], e _ _ ha, h1, by rw [hvs.length, h2.length]; exact hl, g σ _ ⟨_, (E.sm e).mut (a := a) (fp' := a :: fl) hi (by rw [ef]; exact List.mem_cons_self) trivial s1 ?_ nd fun b hb => .inl (by rw [ef]; exact hb)⟩⟩
        have q := (VAll.kp _ (hvs.sm e) (kp (List.nodup_cons.mp n1).1)).append (VAll.kp _ h2 (kp (fun z => nomatch z)))
        rw [List.append_nil] at q
        exact val_lst upd_same q
      · exact g.elim
    · exact g.elim
  · exact g.elim
end
end DL
set_option Elab.async false
set_option linter.all false
set_option maxRecDepth 100000
set_option maxHeartbeats 2000000
namespace DL
open PySem PySem.Spec PyProof.Rows L2

/-! ### targets -/
inductive Tg where
  | nm (i : Nat) | tp (ts : List Tg)
section
variable (K : PySem.W.Frag)
mutual
def tgH : Tg → TG
  | .nm i => gName i
  | .tp ts => fun v σ H Q => ∃ a xs, v = .ref a ∧ (SqL K H a xs ∨ SqT K H a xs) ∧ xs.length = ts.length ∧ tgHs ts xs σ H Q
def tgHs : List Tg → TGs
  | [] => gNil
  | t :: ts => gCons (tgH t) (tgHs ts)
end
end
mutual
def put : Tg → D → En → Option En
  | .nm i, d, env => if i < env.length then some (env.set i (.sh d)) else none
  | .tp ts, d, env => match items d with
    | some ds => puts ts ds env
    | none => none
def puts : List Tg → List D → En → Option En
  | [], [], env => some env
  | t :: ts, d :: ds, env => match put t d env with
    | some e => puts ts ds e
    | none => none
  | _, _, _ => none
end
mutual
def slots : Tg → List Nat
  | .nm i => [i]
  | .tp ts => slotsL ts
def slotsL : List Tg → List Nat
  | [] => []
  | t :: ts => slots t ++ slotsL ts
end
abbrev DG (X : Cx) (tg : Expr) (T : Tg) : Prop := PG X tg (tgH X.K T)
abbrev DGs (X : Cx) (tg : List Expr) (T : List Tg) : Prop := PGs X tg (tgHs X.K T)
section
variable {X : Cx} {pos : Pos}
theorem dg_name {i : Nat} {x : Str} (hN : X.N.Nodup) (hi : X.N[i]? = some x := by rfl) (hx : Loc X.env.scope x := by first | exact Or.inl rfl | exact Or.inr rfl) (hf : X.fn x = true ∨ X.env.scope.names.lookup x = some .local := by first | exact .inl rfl | exact .inr rfl | assumption) :
    DG X (.Name x pos) (.nm i) := by
  show PG X (.Name x pos) (tgH X.K (.nm i))
  simp only [tgH]
  exact pg_name hN hi hx hf
theorem dgs_nil : DGs X [] [] := by
  show PGs X [] (tgHs X.K [])
  simp only [tgHs]
  exact pgs_nil
theorem dgs_cons {e : Expr} {es : List Expr} {t : Tg} {ts : List Tg} (h1 : DG X e t) (h2 : DGs X es ts) (hs : (assignEach (e :: es) X.env).map (·.2) = assign e X.env :: (assignEach es X.env).map (·.2) := by rfl) : DGs X (e :: es) (t :: ts) := by
  show PGs X (e :: es) (tgHs X.K (t :: ts))
  simp only [tgHs]
  exact pgs_cons h1 h2 hs
theorem dg_tup {es : List Expr} {k : Nat} {ts : List Tg} (h : DGs X es ts) (hc : X.calm = true := by rfl) (hn : (assignEach es X.env).length = ts.length := by rfl) (hst : (assignEach es X.env).findIdx? (·.1) = none := by rfl) : DG X (.Tuple es k pos) (.tp ts) := by
  show PG X (.Tuple es k pos) (tgH X.K (.tp ts))
  simp only [tgH]
  refine ⟨fun pins s σ H v u Q I r q => ?_⟩
  obtain ⟨a, xs, e, hs, hl, q⟩ := q
  rcases hs with hs | hs
  · exact (pg_lst hc h hn hst).run pins s σ H v u Q I r ⟨a, xs, e, hs, hl, q⟩
  · exact (pg_tup hc h hn hst).run pins s σ H v u Q I r ⟨a, xs, e, hs, hl, q⟩
end
theorem puts_length : ∀ (ts : List Tg) {ds : List D} {env e' : En}, puts ts ds env = some e' → ds.length = ts.length
  | [], [], _, _, _ => rfl
  | [], _ :: _, _, _, h => by simp [puts] at h
  | _ :: _, [], _, _, h => by simp [puts] at h
  | t :: ts, d :: ds, env, e', h => by
    simp only [puts] at h
    split at h
    · simp [puts_length ts h]
    · cases h
section
variable {K : PySem.W.Frag} {mg : Str → Option Value} {Z H : Hp}
mutual
theorem tg_er : ∀ (T : Tg) {d : D} {env e' : En} {σ : L2.St} {fps : Nat → List Addr} {v : V} {fp : List Addr} {Q : L2.St → Hp → Prop}, put T d env = some e' → ER K mg Z env σ H fps → Val K mg H d v fp → (∀ j d', env[j]? = some (.ow d') → ∀ a ∈ fps j, a ∉ fp) →
    (∀ σ' fps', ER K mg Z e' σ' H fps' → (∀ j d', e'[j]? = some (.ow d') → env[j]? = some (.ow d') ∧ fps' j = fps j) → Q σ' H) → tgH K T v σ H Q
  | .nm i, d, env, e', σ, fps, v, fp, Q, hp, E, hv, ap, k => by
    simp only [put] at hp
    split at hp
    · rename_i hi
      cases hp
      simp only [tgH, gName]
      refine k _ _ (E.share hi hv fun j d' _ ho => ap j d' ho) fun j d' ho => ?_
      by_cases c : j = i
      · subst c; rw [List.getElem?_set_self hi] at ho; cases ho
      · rw [List.getElem?_set_ne (Ne.symm c)] at ho
        exact ⟨ho, by simp [c]⟩
    · cases hp
  | .tp ts, d, env, e', σ, fps, v, fp, Q, hp, E, hv, ap, k => by
    simp only [put] at hp
    split at hp
    · rename_i ds hd
      obtain ⟨a, vs, f, ev, hs, hvs, hf⟩ := hv.seq hd
      simp only [tgH]
      refine ⟨a, vs, ev, hs, ?_, tgs_er ts hp E hvs (fun j d' ho b hb z => ap j d' ho b hb (hf b z)) k⟩
      rw [hvs.length]
      exact puts_length ts hp
    · cases hp
theorem tgs_er : ∀ (ts : List Tg) {ds : List D} {env e' : En} {σ : L2.St} {fps : Nat → List Addr} {vs : List V} {fp : List Addr} {Q : L2.St → Hp → Prop}, puts ts ds env = some e' → ER K mg Z env σ H fps → VAll K mg H ds vs fp → (∀ j d', env[j]? = some (.ow d') → ∀ a ∈ fps j, a ∉ fp) →
    (∀ σ' fps', ER K mg Z e' σ' H fps' → (∀ j d', e'[j]? = some (.ow d') → env[j]? = some (.ow d') ∧ fps' j = fps j) → Q σ' H) → tgHs K ts vs σ H Q
  | [], ds, env, e', σ, fps, vs, fp, Q, hp, E, hv, ap, k => by
    cases ds with
    | nil =>
      simp only [puts, Option.some.injEq] at hp
      subst hp
      simp only [VAll] at hv
      simp only [tgHs, gNil]
      exact ⟨hv.1, k _ _ E fun j d' ho => ⟨ho, rfl⟩⟩
    | cons d ds => simp [puts] at hp
  | t :: ts, ds, env, e', σ, fps, vs, fp, Q, hp, E, hv, ap, k => by
    cases ds with
    | nil => simp [puts] at hp
    | cons d ds =>
      simp only [puts] at hp
      split at hp
      · rename_i e1 h1
        simp only [VAll] at hv
        obtain ⟨v, vr, f, g, ev, ef, hv1, hv2⟩ := hv
        simp only [tgHs, gCons]
        refine ⟨v, vr, ev, tg_er t h1 E hv1 (fun j d' ho b hb z => ap j d' ho b hb (by rw [ef]; exact List.mem_append_left _ z)) fun σ1 fps1 E1 w1 => ?_⟩
        refine tgs_er ts hp E1 hv2 (fun j d' ho b hb z => ?_) fun σ2 fps2 E2 w2 => k σ2 fps2 E2 fun j d' ho => ?_
        · obtain ⟨q1, q2⟩ := w1 j d' ho
          rw [q2] at hb
          exact ap j d' q1 b hb (by rw [ef]; exact List.mem_append_right _ z)
        · obtain ⟨q1, q2⟩ := w2 j d' ho
          obtain ⟨q3, q4⟩ := w1 j d' q1
          exact ⟨q3, q2.trans q4⟩
      · cases hp
end
mutual
theorem tg_pe : ∀ (T : Tg) {S : Addr → Prop} {d : D} {env e' : En} {σ : L2.St} {v : V} {fp : List Addr} {Q : L2.St → Hp → Prop}, put T d env = some e' → PEnv K mg S env σ H → Val K mg H d v fp → (∀ a ∈ fp, S a) →
    (∀ σ', PEnv K mg S e' σ' H → (∀ j, j ∉ slots T → σ'[j]? = σ[j]?) → σ'.length = σ.length → Q σ' H) → tgH K T v σ H Q
  | .nm i, S, d, env, e', σ, v, fp, Q, hp, P, hv, hS, k => by
    simp only [put] at hp
    split at hp
    · rename_i hi
      cases hp
      simp only [tgH, gName]
      refine k _ ⟨by simp [P.len], fun j e h => ?_⟩ (fun j hj => ?_) (by simp)
      · rw [look_set hi] at h
        by_cases c : j = i
        · subst c
          rw [if_pos rfl] at h
          cases h
          exact ⟨v, fp, List.getElem?_set_self (by rw [← P.len]; exact hi), hv, hS⟩
        · rw [if_neg c] at h
          rw [List.getElem?_set_ne (Ne.symm c)]
          exact P.val j e h
      · simp only [slots, List.mem_singleton] at hj
        rw [List.getElem?_set_ne (Ne.symm hj)]
    · cases hp
  | .tp ts, S, d, env, e', σ, v, fp, Q, hp, P, hv, hS, k => by
    simp only [put] at hp
    split at hp
    · rename_i ds hd
      obtain ⟨a, vs, f, ev, hs, hvs, hf⟩ := hv.seq hd
      simp only [tgH]
      refine ⟨a, vs, ev, hs, ?_, tgs_pe ts hp P hvs (fun b hb => hS b (hf b hb)) fun σ' P' w l => k σ' P' (fun j hj => w j (by simpa [slots] using hj)) l⟩
      rw [hvs.length]
      exact puts_length ts hp
    · cases hp
theorem tgs_pe : ∀ (ts : List Tg) {S : Addr → Prop} {ds : List D} {env e' : En} {σ : L2.St} {vs : List V} {fp : List Addr} {Q : L2.St → Hp → Prop}, puts ts ds env = some e' → PEnv K mg S env σ H → VAll K mg H ds vs fp → (∀ a ∈ fp, S a) →
    (∀ σ', PEnv K mg S e' σ' H → (∀ j, j ∉ slotsL ts → σ'[j]? = σ[j]?) → σ'.length = σ.length → Q σ' H) → tgHs K ts vs σ H Q
  | [], S, ds, env, e', σ, vs, fp, Q, hp, P, hv, hS, k => by
    cases ds with
    | nil =>
      simp only [puts, Option.some.injEq] at hp
      subst hp
      simp only [VAll] at hv
      simp only [tgHs, gNil]
      exact ⟨hv.1, k _ P (fun _ _ => rfl) rfl⟩
    | cons d ds => simp [puts] at hp
  | t :: ts, S, ds, env, e', σ, vs, fp, Q, hp, P, hv, hS, k => by
    cases ds with
    | nil => simp [puts] at hp
    | cons d ds =>
      simp only [puts] at hp
      split at hp
      · rename_i e1 h1
        simp only [VAll] at hv
        obtain ⟨v, vr, f, g, ev, ef, hv1, hv2⟩ := hv
        simp only [tgHs, gCons]
        refine ⟨v, vr, ev, tg_pe t h1 P hv1 (fun b hb => hS b (by rw [ef]; exact List.mem_append_left _ hb)) fun σ1 P1 w1 l1 => ?_⟩
        refine tgs_pe ts hp P1 hv2 (fun b hb => hS b (by rw [ef]; exact List.mem_append_right _ hb)) fun σ2 P2 w2 l2 => k σ2 P2 (fun j hj => ?_) (l2.trans l1)
        simp only [slotsL, List.mem_append, not_or] at hj
        rw [w2 j hj.2, w1 j hj.1]
      · cases hp
end
end

/-! ### what is walked -/
def ItD (K : PySem.W.Frag) (mg : Str → Option Value) (Z : Hp) (fi : List Addr) (J : It) (ds : List D) : Prop := ∀ H, Sm Z H → ∀ i,
  (∀ d, ds[i]? = some d → J.go i H ∧ ∀ x H', J.yld i H x H' → Sm H H' ∧ ∃ fp, Val K mg H' d x fp ∧ ∀ a ∈ fp, a ∈ fi ∧ Z a ≠ none) ∧ (ds.length ≤ i → J.stop i H)
def Stat : HO → Prop
  | .tup _ => True
  | .frz _ _ => True
  | .own _ => True
  | _ => False
def WalkD (K : PySem.W.Frag) (mg : Str → Option Value) (H1 : Hp) (fi : List Addr) (J : It) (ds : List D) : Prop := ∀ Z : Hp, (∀ b o, H1 b = some o → (b ∈ fi ∨ Stat o) → Z b = some o) → ItD K mg Z fi J ds
def tI (K : PySem.W.Frag) (mg : Str → Option Value) (W : WX) (f : En → R (List D)) : TI := fun σ H R => ∃ S env, PEnv K mg S env σ H ∧ Out mg W σ H (f env) fun ds => ∀ J H1 fi, Sm H H1 → (∀ a ∈ fi, S a ∨ H a = none) → (∀ a ∈ fi, H1 a ≠ none) → WalkD K mg H1 fi J ds → R J H1
/-- what is walked is new -/
def tIF (K : PySem.W.Frag) (mg : Str → Option Value) (W : WX) (f : En → R (List D)) : TI := fun σ H R => ∃ S env, PEnv K mg S env σ H ∧ Out mg W σ H (f env) fun ds => ∀ J H1 fi, Sm H H1 → (∀ a ∈ fi, H a = none) → (∀ a ∈ fi, H1 a ≠ none) → WalkD K mg H1 fi J ds → R J H1
abbrev DI (X : Cx) (W : WX) (tg e : Expr) (f : En → R (List D)) : Prop := PI X tg e (tI X.K X.mg W f)
abbrev DIF (X : Cx) (W : WX) (tg e : Expr) (f : En → R (List D)) : Prop := PI X tg e (tIF X.K X.mg W f)
theorem pi_weak {X : Cx} {tg e : Expr} {t t' : TI} (h : PI X tg e t) (w : ∀ σ H Q, t' σ H Q → t σ H Q) : PI X tg e t' := ⟨fun pins s σ H Q I q => h.run pins s σ H Q I (w σ H Q q)⟩
theorem DIF.di {X : Cx} {W : WX} {tg e : Expr} {f : En → R (List D)} (h : DIF X W tg e f) : DI X W tg e f := pi_weak h fun σ H R ⟨S, env, P, q⟩ => ⟨S, env, P, q.imp fun ds q J H1 fi e h1 h2 w => q J H1 fi e (fun a ha => .inr (h1 a ha)) h2 w⟩
/-- the items of a sequence or a text -/
def iterD : D → Option (List D)
  | .str z => some (z.cps.toList.map fun c => .str ⟨#[c]⟩)
  | d => items d
def eIter (f : En → R D) (env : En) : R (List D) := f env >>= fun d => R.of (iterD d)
section
variable {X : Cx} {W : WX} {tg e : Expr} {f : En → R D}
def iAny (K : PySem.W.Frag) (tl : TE) : TI := fun σ H R => tl σ H fun x H1 => (∃ a, x = .ref a ∧ (∃ xs, SqL K H1 a xs) ∧ R (Itl K a) H1) ∨ (∃ a, x = .ref a ∧ (∃ xs, SqT K H1 a xs) ∧ R (Itt K a) H1) ∨ ∃ z, x = .str z ∧ R (Its z) H1
theorem pi_any {l : Expr} {tl : TE} (hl : PE X l tl) : PI X tg l (iAny X.K tl) := by
  refine ⟨fun pins s σ H R I h => ?_⟩
  refine thn (hl.run pins s σ H _ I h) fun v s1 ⟨x, H1, I1, r1, q1⟩ => ?_
  rcases q1 with ⟨a, e, ⟨xs, hq⟩, q⟩ | ⟨a, e, ⟨xs, hq⟩, q⟩ | ⟨z, ex, q⟩
  · subst e
    cases r1
    obtain ⟨its, rv, p, hz⟩ := I1.list hq
    refine wpAny_pyIter_list p.isList ?_
    refine ⟨s1.heap.objs.size, [s1.heap.objs.size], _, _, H1, rfl, I1.kept (t' := s1.toks) fun b o e => Heap.get?_push_of_some _ e, turn_list a _, ⟨_, Heap.get?_push_size _ rfl, rfl, rfl⟩, fun b hb => ?_, q⟩
    have e : b = s1.heap.objs.size := by simpa using hb
    subst e
    exact I1.fpOk (Nat.le_refl _) (I1.hok.fresh (Nat.le_refl _))
  · subst e
    cases r1
    obtain ⟨its, rv, p, hz⟩ := I1.tuple hq
    refine wpAny_pyIter_tuple (show s1.heap.IsTuple a its.toArray from p) ?_
    refine ⟨s1.heap.objs.size, [s1.heap.objs.size], _, _, H1, rfl, I1.kept (t' := s1.toks) fun b o e => Heap.get?_push_of_some _ e, turn_tuple a _, ⟨_, Heap.get?_push_size _ rfl, rfl, rfl⟩, fun b hb => ?_, q⟩
    have e : b = s1.heap.objs.size := by simpa using hb
    subst e
    exact I1.fpOk (Nat.le_refl _) (I1.hok.fresh (Nat.le_refl _))
  · subst ex
    obtain ⟨t, rfl⟩ := r1
    cases ha : z.cps.all (· < 128)
    · exact wpAny_pyIter_wide ha (pi_one (tk := s1.toks) I1 _ (turn_str _ z t "str_iterator" (.inr rfl)) ⟨_, Heap.get?_push_size _ rfl, rfl, rfl⟩ q)
    · exact wpAny_pyIter_ascii ha (pi_one (tk := s1.toks) I1 _ (turn_str _ z t "str_ascii_iterator" (.inl rfl)) ⟨_, Heap.get?_push_size _ rfl, rfl, rfl⟩ q)
theorem kp_of {fi g : List Addr} {H1 Z H : Hp} (hz : ∀ b o, H1 b = some o → (b ∈ fi ∨ Stat o) → Z b = some o) (e : Sm Z H) (hg : ∀ a ∈ g, a ∈ fi) : Kp g H1 H :=
  ⟨fun b u hb h => by
    rcases h with h | ⟨o, h⟩
    · exact .inl (e _ _ (hz _ _ h (.inl (hg b hb))))
    · exact .inr ⟨o, e _ _ (hz _ _ h (.inl (hg b hb)))⟩,
   fun b vs hb h => e _ _ (hz _ _ h (.inl (hg b hb))), fun b o vs h => e _ _ (hz _ _ h (.inr trivial)), fun b C dx fs hb h => e _ _ (hz _ _ h (.inl (hg b hb))), fun b xs h => e _ _ (hz _ _ h (.inr trivial)), fun b xs h => e _ _ (hz _ _ h (.inr trivial)), fun b o C dx fs h => e _ _ (hz _ _ h (.inr trivial))⟩
def WalkOut (K : PySem.W.Frag) (H1 : Hp) (x : V) (Rr : It → Hp → Prop) : Prop := (∃ a, x = .ref a ∧ (∃ xs, SqL K H1 a xs) ∧ Rr (Itl K a) H1) ∨ (∃ a, x = .ref a ∧ (∃ xs, SqT K H1 a xs) ∧ Rr (Itt K a) H1) ∨ ∃ z, x = .str z ∧ Rr (Its z) H1
theorem walk_val {K : PySem.W.Frag} {mg : Str → Option Value} {H1 : Hp} {d : D} {x : V} {fp : List Addr} {ds : List D} {Rr : It → Hp → Prop} (hv : Val K mg H1 d x fp) (hi : iterD d = some ds) (k : ∀ J, WalkD K mg H1 fp J ds → Rr J H1) :
    WalkOut K H1 x Rr := by
  -- the items' own part
  have item : ∀ {Z H : Hp} {vs : List V} {f : List Addr} {i : Nat} {y : V} {e0 : D}, (∀ b o, H1 b = some o → (b ∈ fp ∨ Stat o) → Z b = some o) → Sm Z H → VAll K mg H1 ds vs f → (∀ b ∈ f, b ∈ fp) → ds[i]? = some e0 → vs[i]? = some y → ∃ g, Val K mg H e0 y g ∧ ∀ a ∈ g, a ∈ fp ∧ Z a ≠ none := fun {Z H vs f i y e0} hz e hvs hf h1 h2 => by
    obtain ⟨u, g, q1, q2, q3⟩ := hvs.get h1
    rw [h2] at q1; cases q1
    refine ⟨g, Val.kp _ q2 (kp_of hz e fun a ha => hf a (q3 a ha)), fun a ha => ⟨hf a (q3 a ha), ?_⟩⟩
    obtain ⟨o, ho, _⟩ := Val.dom _ q2 a ha
    rw [hz a o ho (.inl (hf a (q3 a ha)))]
    exact fun z => nomatch z
  have list : ∀ {a vs f}, x = .ref a → (∀ {Z H : Hp}, (∀ b o, H1 b = some o → (b ∈ fp ∨ Stat o) → Z b = some o) → Sm Z H → SqL K H a vs) → SqL K H1 a vs → VAll K mg H1 ds vs f → (∀ b ∈ f, b ∈ fp) → WalkOut K H1 x Rr := fun {a vs f} ex hs h1 hvs hf =>
    Or.inl ⟨a, ex, ⟨vs, h1⟩, k _ fun Z hz H e i => ⟨fun e0 he0 => by
      obtain ⟨u, _, hu, _⟩ := hvs.get he0
      refine ⟨⟨vs, u, hs hz e, hu⟩, fun y H' hy => ?_⟩
      obtain ⟨rfl, hy⟩ := hy
      exact ⟨Sm.refl _, item hz e hvs hf he0 (hy vs (hs hz e))⟩, fun hl => ⟨vs, hs hz e, by rw [hvs.length]; exact hl⟩⟩⟩
  have tup : ∀ {a vs f}, x = .ref a → (∀ {Z H : Hp}, (∀ b o, H1 b = some o → (b ∈ fp ∨ Stat o) → Z b = some o) → Sm Z H → SqT K H a vs) → SqT K H1 a vs → VAll K mg H1 ds vs f → (∀ b ∈ f, b ∈ fp) → WalkOut K H1 x Rr := fun {a vs f} ex hs h1 hvs hf =>
    Or.inr (Or.inl ⟨a, ex, ⟨vs, h1⟩, k _ fun Z hz H e i => ⟨fun e0 he0 => by
      obtain ⟨u, _, hu, _⟩ := hvs.get he0
      refine ⟨⟨vs, u, hs hz e, hu⟩, fun y H' hy => ?_⟩
      obtain ⟨rfl, hy⟩ := hy
      exact ⟨Sm.refl _, item hz e hvs hf he0 (hy vs (hs hz e))⟩, fun hl => ⟨vs, hs hz e, by rw [hvs.length]; exact hl⟩⟩⟩)
  cases d <;> simp only [iterD, items, reduceCtorEq, Option.some.injEq] at hi
  · subst hi
    simp only [Val] at hv
    rename_i z
    refine .inr (.inr ⟨_, hv.1, k _ fun Z hz H e i => ⟨fun e0 he0 => ?_, fun hl => (show z.cps.size ≤ i from by simpa using hl)⟩⟩)
    rw [List.getElem?_map, Option.map_eq_some_iff] at he0
    obtain ⟨c, hc, rfl⟩ := he0
    have hlt : i < z.cps.size := by
      have := (List.getElem?_eq_some_iff.mp hc).1
      simpa using this
    refine ⟨hlt, fun y H' hy => ?_⟩
    obtain ⟨rfl, c', hc', rfl⟩ := hy
    rw [Array.getElem?_toList] at hc
    rw [hc'] at hc
    cases hc
    exact ⟨Sm.refl _, [], val_str, nf⟩
  · subst hi
    simp only [Val] at hv
    obtain ⟨a, vs, e1, h1, h2⟩ := hv
    exact tup e1 (fun hz e => .inl (.inl (e _ _ (hz _ _ h1 (.inr trivial))))) (.inl (.inl h1)) h2 fun b hb => hb
  · subst hi
    simp only [Val] at hv
    obtain ⟨a, vs, f, e1, e2, h1, h2⟩ := hv
    exact list e1 (fun hz e => .inl (.inl (e _ _ (hz _ _ h1 (.inl (by rw [e2]; exact List.mem_cons_self)))))) (.inl (.inl h1)) h2 fun b hb => by rw [e2]; exact List.mem_cons_of_mem _ hb
  · subst hi
    simp only [Val] at hv
    obtain ⟨a, vs, e1, h1, h2⟩ := hv
    refine list e1 (fun hz e => ?_) h1.sq h2 fun b hb => hb
    rcases h1 with ⟨o, h1⟩ | h1
    · exact .inl (.inr ⟨o, e _ _ (hz _ _ h1 (.inr trivial))⟩)
    · exact .inr h1
  · subst hi
    simp only [Val] at hv
    obtain ⟨a, vs, e1, h1, h2⟩ := hv
    exact tup e1 (fun _ _ => h1.sq) h1.sq h2 fun b hb => hb
  · subst hi
    simp only [Val] at hv
    obtain ⟨a, vs, o, e1, h1, h2⟩ := hv
    exact list e1 (fun hz e => .inl (.inr ⟨o, e _ _ (hz _ _ h1 (.inr trivial))⟩)) (.inl (.inr ⟨o, h1⟩)) h2 fun b hb => hb
theorem Val.there {K : PySem.W.Frag} {mg : Str → Option Value} {H : Hp} {d : D} {v : V} {fp : List Addr} (h : Val K mg H d v fp) : ∀ a ∈ fp, H a ≠ none := fun a ha z => h.gone ha z
theorem di_any (h : DE X W e f) : DI X W tg e (eIter f) := pi_weak (pi_any h) fun σ H R ⟨S, env, P, q⟩ => by
  refine stE P q fun d v H' fp e hv hp q => ?_
  obtain ⟨ds, eds, q⟩ := Out.of q
  exact walk_val hv eds fun J w => q J H' fp e hp hv.there w
theorem dif_any (h : DF X W e f) : DIF X W tg e (eIter f) := pi_weak (pi_any h) fun σ H R ⟨S, env, P, q⟩ => by
  refine ⟨S, env, P, q.bind.imp fun d q v H' fp e hv hn hp => ?_⟩
  obtain ⟨ds, eds, q⟩ := Out.of q
  exact walk_val hv eds fun J w => q J H' fp e (fun a ha => (hp a ha).1) hv.there w
end
/-! ### ranges -/
def rngD (lo : Int) (n : Nat) (c : Int) : List D := (List.range n).map fun k => .int (lo + (k : Nat) * c)
def small62 (i : Int) : Bool := decide (-(2 ^ 62) ≤ i) && decide (i < 2 ^ 62)
def rangeF1 : List D → Option (List D)
  | [.int j] => if small62 j = true then some (rngD 0 j.toNat 1) else none
  | _ => none
def rangeF2 : List D → Option (List D)
  | [.int i, .int j] => if small62 i = true ∧ small62 j = true then some (rngD i (j - i).toNat 1) else none
  | _ => none
/-- by a step of 1, -1 or 2 -/
def rangeF3 : List D → Option (List D)
  | [.int i, .int j, .int c] => if small62 i = true ∧ small62 j = true then (if c = -1 then some (rngD i (i - j).toNat (-1)) else if c = 2 then some (rngD i ((j - i + 1) / 2).toNat 2) else none) else none
  | _ => none
def eRange (F : List D → Option (List D)) (g : En → R (List D)) (env : En) : R (List D) := g env >>= fun ds => R.of (F ds)
theorem walk_rng {K : PySem.W.Frag} {mg : Str → Option Value} {H1 : Hp} {lo : Int} {n : Nat} : WalkD K mg H1 [] (Itr lo n) (rngD lo n 1) := fun Z hz H e i => by
  refine ⟨fun d hd => ?_, fun hl => by rw [rngD, List.length_map, List.length_range] at hl; exact hl⟩
  unfold rngD at hd
  rw [List.getElem?_map, Option.map_eq_some_iff] at hd
  obtain ⟨k, hk, rfl⟩ := hd
  obtain ⟨h1, h2⟩ := List.getElem?_eq_some_iff.mp hk
  rw [List.getElem_range] at h2
  subst h2
  rw [List.length_range] at h1
  refine ⟨h1, fun y H' hy => ?_⟩
  obtain ⟨rfl, rfl⟩ := hy
  exact ⟨Sm.refl _, [], by rw [Int.mul_one]; exact val_int, nf⟩
theorem walk_rngC {K : PySem.W.Frag} {mg : Str → Option Value} {H1 : Hp} {lo c : Int} {n : Nat} : WalkD K mg H1 [] (Itc lo c n) (rngD lo n c) := fun Z hz H e i => by
  refine ⟨fun d hd => ?_, fun hl => by rw [rngD, List.length_map, List.length_range] at hl; exact hl⟩
  unfold rngD at hd
  rw [List.getElem?_map, Option.map_eq_some_iff] at hd
  obtain ⟨k, hk, rfl⟩ := hd
  obtain ⟨h1, h2⟩ := List.getElem?_eq_some_iff.mp hk
  rw [List.getElem_range] at h2
  subst h2
  rw [List.length_range] at h1
  refine ⟨h1, fun y H' hy => ?_⟩
  obtain ⟨rfl, rfl⟩ := hy
  exact ⟨Sm.refl _, [], val_int, nf⟩
section
variable {X : Cx} {W : WX} {tg a b c : Expr} {p pos : Pos}
theorem small62_iff {i : Int} (h : small62 i = true) : -(2 ^ 62) ≤ i ∧ i < 2 ^ 62 := by simpa [small62] using h
theorem dif_rng1 {g : En → R (List D)} (hm : X.mg "range" = none) (ha : DA X W [a] g) (hg : Gl X "range" := by rfl) (hs : starEach [a] X.env = [(false, eval a X.env)] := by rfl) : DIF X W tg (.Call (.Name "range" p) [a] [] pos) (eRange rangeF1 g) :=
  pi_weak (pi_range1 hg hm ha hs) fun σ H R ⟨S, env, P, q⟩ => by
    refine stA P q fun ds vs H1 fp e hv hp q => ?_
    obtain ⟨rs, er, q⟩ := Out.of q
    unfold rangeF1 at er
    split at er
    · split at er
      · rename_i hz
        cases er
        obtain ⟨v, ev, h1⟩ := hv.inv1
        simp only [Val] at h1
        obtain ⟨q1, q2⟩ := small62_iff hz
        exact ⟨_, by rw [ev, h1.1], q1, q2, q _ H1 [] e nf nf walk_rng⟩
      · cases er
    · cases er
theorem dif_rng2 {g : En → R (List D)} (hm : X.mg "range" = none) (ha : DA X W [a, b] g) (hg : Gl X "range" := by rfl) (hs : starEach [a, b] X.env = [(false, eval a X.env), (false, eval b X.env)] := by rfl) (hs2 : starEach [b] X.env = [(false, eval b X.env)] := by rfl) :
    DIF X W tg (.Call (.Name "range" p) [a, b] [] pos) (eRange rangeF2 g) :=
  pi_weak (pi_range2 hg hm ha hs hs2) fun σ H R ⟨S, env, P, q⟩ => by
    refine stA P q fun ds vs H1 fp e hv hp q => ?_
    obtain ⟨rs, er, q⟩ := Out.of q
    unfold rangeF2 at er
    split at er
    · split at er
      · rename_i hz
        cases er
        obtain ⟨v, v2, f, f2, ev, ef, h1, h2⟩ := hv.inv2
        simp only [Val] at h1 h2
        obtain ⟨q1, q2⟩ := small62_iff hz.1
        obtain ⟨q3, q4⟩ := small62_iff hz.2
        exact ⟨_, _, by rw [ev, h1.1, h2.1], ⟨q1, q2, q3, q4⟩, q _ H1 [] e nf nf walk_rng⟩
      · cases er
    · cases er
theorem VAll.inv3 {K : PySem.W.Frag} {mg : Str → Option Value} {H : Hp} {d d2 d3 : D} {vs : List V} {fp : List Addr} (h : VAll K mg H [d, d2, d3] vs fp) : ∃ v v2 v3 f f2 f3, vs = [v, v2, v3] ∧ Val K mg H d v f ∧ Val K mg H d2 v2 f2 ∧ Val K mg H d3 v3 f3 := by
  simp only [VAll] at h
  obtain ⟨v, vr, f, g, e, ef, h1, v2, vr2, f2, g2, e2, ef2, h2, v3, vr3, f3, g3, e3, ef3, h3, h4, h5⟩ := h
  exact ⟨v, v2, v3, f, f2, f3, by rw [e, e2, e3, h4], h1, h2, h3⟩
theorem rgc2 {i j : Int} (ha : -(2 ^ 62) ≤ i) (ha' : i < 2 ^ 62) (hb : -(2 ^ 62) ≤ j) (hb' : j < 2 ^ 62) : RgC i j 2 ((j - i + 1) / 2).toNat := by
  have hs : Builtin.Range.rangeSize i j 2 = (((j - i + 1) / 2).toNat : Int) := by
    unfold Builtin.Range.rangeSize
    rw [if_pos (by decide)]
    split <;> omega
  refine ⟨by decide, by decide, ?_, hs⟩
  unfold Builtin.Range.small
  rw [hs]
  simp only [Builtin.Range.rangeFitsLong, Bool.and_eq_true, Bool.or_eq_true, decide_eq_true_eq, beq_iff_eq, show ((2 : Int) > 0) by decide, if_true]
  omega
theorem dif_rng3 {g : En → R (List D)} (hm : X.mg "range" = none) (ha : DA X W [a, b, c] g) (hg : Gl X "range" := by rfl) (hs : starEach [a, b, c] X.env = (false, eval a X.env) :: starEach [b, c] X.env := by rfl) (hpl : (backTo pos (starEach [b, c] X.env)).any (·.1) = false := by rfl) :
    DIF X W tg (.Call (.Name "range" p) [a, b, c] [] pos) (eRange rangeF3 g) :=
  pi_weak (pi_range3 hg hm ha hs hpl) fun σ H R ⟨S, env, P, q⟩ => by
    refine stA P q fun ds vs H1 fp e hv hp q => ?_
    obtain ⟨rs, er, qq⟩ := Out.of q; clear q
    unfold rangeF3 at er
    split at er
    · split at er
      · rename_i hz
        obtain ⟨v, v2, v3, f, f2, f3, ev, h1, h2, h3⟩ := hv.inv3
        simp only [Val] at h1 h2 h3
        obtain ⟨q1, q2⟩ := small62_iff hz.1
        obtain ⟨q3, q4⟩ := small62_iff hz.2
        split at er
        · rename_i hc
          cases er
          subst hc
          exact ⟨_, _, -1, _, by rw [ev, h1.1, h2.1, h3.1], RgC.neg q1 q2 q3 q4, qq _ H1 [] e nf nf walk_rngC⟩
        · split at er
          · rename_i hc
            cases er
            subst hc
            exact ⟨_, _, 2, _, by rw [ev, h1.1, h2.1, h3.1], rgc2 q1 q2 q3 q4, qq _ H1 [] e nf nf walk_rngC⟩
          · cases er
      · cases er
    · cases er
end
end DL
set_option Elab.async false
set_option linter.all false
set_option maxRecDepth 100000
set_option maxHeartbeats 2000000
namespace DL
open PySem PySem.Spec PyProof.Rows L2

/-! ### for -/
def loop (T : Tg) (body : En → Fl) : List D → En → Fl
  | [], env => .nx env
  | d :: ds, env => match put T d env with
    | none => .no
    | some e => match body e with
      | .nx e' => loop T body ds e'
      | .ct e' => loop T body ds e'
      | .bk e' => .nx e'
      | r => r
def freezes : List Nat → En → En
  | [], env => env
  | i :: r, env => freezes r (freeze i env)
/-- over what is new or can't be changed -/
def sForF (T : Tg) (fi : En → R (List D)) (body : En → Fl) (env : En) : Fl := onE (fi env) env fun ds => loop T body ds env
/-- over what is shared; fz: slots that are shared from here on -/
def sForS (fz : List Nat) (T : Tg) (fi : En → R (List D)) (body : En → Fl) (env : En) : Fl := onE (fi ((freezes fz env).map hideS)) (freezes fz env) fun ds => loop T body ds (freezes fz env)
section
variable {K : PySem.W.Frag} {mg : Str → Option Value} {Z Z' H H1 : Hp} {env : En} {σ : L2.St} {fps : Nat → List Addr} {W : WX} {D' : Ends}
theorem ER.freezes (E : ER K mg Z env σ H fps) : ∀ l, ER K mg Z (freezes l env) σ H fps := fun l => by
  induction l generalizing env with
  | nil => exact E
  | cons i r ih => exact ih (E.freeze i)
/-- more is not to be changed: Z and what is at fi, as it stands in H1 -/
noncomputable def more (Z : Hp) (fi : List Addr) (H1 : Hp) : Hp := fun b => if Z b ≠ none then Z b else open Classical in if b ∈ fi ∨ ∃ o, H1 b = some o ∧ Stat o then H1 b else none
theorem more_z {fi : List Addr} : Sm Z (more Z fi H1) := fun b o e => by
  unfold more
  rw [if_pos (by rw [e]; exact fun z => nomatch z)]; exact e
theorem more_sm {fi : List Addr} (e : Sm Z H1) : Sm (more Z fi H1) H1 := fun b o h => by
  unfold more at h
  split at h
  · exact e b o h
  · split at h
    · exact h
    · cases h
theorem more_has {fi : List Addr} (e : Sm Z H1) : ∀ b o, H1 b = some o → (b ∈ fi ∨ Stat o) → more Z fi H1 b = some o := fun b o h c => by
  unfold more
  split
  · rename_i hz
    cases q : Z b with
    | none => exact absurd q hz
    | some u => rw [e b u q] at h; exact h
  · rw [if_pos (c.imp id fun s => ⟨o, h, s⟩)]; exact h
theorem more_none {fi : List Addr} {a : Addr} (h0 : Z a = none) (h1 : a ∉ fi) (m : Mut (H1 a)) : more Z fi H1 a = none := by
  unfold more
  rw [if_neg (by rw [h0]; exact fun z => z rfl), if_neg]
  rintro (z | ⟨o, e, s⟩)
  · exact h1 z
  · rw [e] at m
    cases o <;> first | exact m | exact s
theorem ER.more (E : ER K mg Z env σ H1 fps) {fi : List Addr} (ap : ∀ j d', env[j]? = some (.ow d') → ∀ a ∈ fps j, a ∉ fi) : ER K mg (more Z fi H1) env σ H1 fps :=
  ⟨E.len, E.val, fun i d h => ⟨(E.own i d h).1, fun a ha => ⟨more_none ((E.own i d h).2.1 a ha).1 (ap i d h a ha) ((E.own i d h).2.1 a ha).2, ((E.own i d h).2.1 a ha).2⟩, (E.own i d h).2.2⟩, more_sm E.keep⟩
theorem EO.less (E : EO K mg Z' env σ H) (e : Sm Z Z') : EO K mg Z env σ H := by
  obtain ⟨fps, E⟩ := E
  refine ⟨fps, E.len, E.val, fun i d h => ⟨(E.own i d h).1, fun a ha => ⟨e.back ((E.own i d h).2.1 a ha).1, ((E.own i d h).2.1 a ha).2⟩, (E.own i d h).2.2⟩, e.trans E.keep⟩
theorem Go.less {r : Fl} (g : Go K mg W Z D' r) (e : Sm Z Z') : Go K mg W Z' D' r := by
  cases r with
  | nx e' => exact fun σ' H' E => g σ' H' (E.less e)
  | rt d => exact fun v H' fp k hv hn hp => g v H' fp (e.trans k) hv hn fun a ha => ⟨e.back (hp a ha).1, (hp a ha).2⟩
  | bk e' => exact fun σ' H' E => g σ' H' (E.less e)
  | ct e' => exact fun σ' H' E => g σ' H' (E.less e)
  | ex c e' => exact fun C σ' H' m E => g C σ' H' m (E.less e)
  | no => exact g
/-- the loop itself -/
theorem st_loop {J : It} {T : Tg} {F : En → Fl} {ds : List D} {fi : List Addr} (hw : ItD K mg Z fi J ds) (E : EO K mg Z env σ H) (g : Go K mg W Z D' (loop T F ds env)) :
    ∃ Wv : Nat → Nat → L2.St → Hp → Prop, (∃ m, Wv 0 m σ H) ∧ ∀ i m σ H, Wv i m σ H → (J.stop i H ∧ D'.nx σ H) ∨
      (J.go i H ∧ ∃ N : L2.St → Hp → Prop, (∀ σ' H', N σ' H' → ∃ m', m' < m ∧ Wv (i + 1) m' σ' H') ∧ ∀ x H', J.yld i H x H' → tgH K T x σ H' fun σ2 H2 => tS K mg W F { D' with nx := N, ct := N, bk := D'.nx } σ2 H2) := by
  refine ⟨fun i m σ H => m = ds.length - i ∧ i ≤ ds.length ∧ ∃ env, EO K mg Z env σ H ∧ Go K mg W Z D' (loop T F (ds.drop i) env), ⟨ds.length, by simp, Nat.zero_le _, env, E, g⟩, ?_⟩
  rintro i m σ H ⟨rfl, hi, env, E, g⟩
  obtain ⟨fps, E⟩ := E
  obtain ⟨w1, w2⟩ := hw H E.keep i
  by_cases hl : i < ds.length
  · refine .inr ?_
    have hd : ds[i]? = some ds[i] := List.getElem?_eq_getElem hl
    obtain ⟨go, y⟩ := w1 _ hd
    refine ⟨go, fun σ' H' => ∃ env, EO K mg Z env σ' H' ∧ Go K mg W Z D' (loop T F (ds.drop (i + 1)) env), fun σ' H' ⟨e', q1, q2⟩ => ⟨ds.length - (i + 1), by omega, rfl, hl, e', q1, q2⟩, fun x H' hy => ?_⟩
    obtain ⟨e, fp, hv, hz⟩ := y x H' hy
    rw [List.drop_eq_getElem_cons hl] at g
    unfold loop at g
    split at g
    · exact g.elim
    · rename_i e1 he1
      refine tg_er T he1 (E.sm e) hv (fun j d' ho a ha z => (hz a z).2 ((E.own j d' ho).2.1 a ha).1) fun σ2 fps2 E2 _ => ?_
      refine ⟨Z, e1, ⟨fps2, E2⟩, ?_⟩
      cases q : F e1 with
      | nx e' => rw [q] at g; exact fun σ' H' E' => ⟨e', E', g⟩
      | ct e' => rw [q] at g; exact fun σ' H' E' => ⟨e', E', g⟩
      | bk e' => rw [q] at g; exact g
      | rt d => rw [q] at g; exact g
      | ex c e' => rw [q] at g; exact g
      | no => rw [q] at g; exact g
  · have hi' : i = ds.length := by omega
    subst hi'
    rw [List.drop_length] at g
    exact .inl ⟨w2 (Nat.le_refl _), g σ H ⟨fps, E⟩⟩
end
section
variable {X : Cx} {W : WX} {pos : Pos} {tg iter : Expr} {body : List Stmt} {T : Tg} {fi : En → R (List D)} {F : En → Fl}
theorem ds_forF (hi : DIF X W tg iter fi) (ht : DG X tg T) (hb : DSs X W body F) (hp : PassesOwn (model X.prog X.w) X.A X.env X.xe) (hc : X.calm = true := by rfl) (hs : ∀ x, foldedSetIterable iter X.env x = pure x := by intro _; rfl) : DS X W (.For tg iter body [] pos) (sForF T fi F) :=
  ps_weak (ps_for hp hc hi ht hb hs) fun D σ H ⟨Z, env, E, g⟩ => by
    have E' := E
    obtain ⟨fps, E⟩ := E
    refine ⟨_, env, E.penv, (Go.out E' g).imp fun ds g J H1 fi e h1 h2 w => ?_⟩
    have E1 := (E.sm e).more (fi := fi) fun j d' ho a ha z => by
      obtain ⟨u, _, hu⟩ := E.val j d' (look_ow ho)
      exact hu.gone ha (h1 a z)
    exact st_loop (w _ (more_has (E.keep.trans e))) ⟨fps, E1⟩ (g.less more_z)
theorem ds_forS {fz : List Nat} (hi : DI X W tg iter fi) (ht : DG X tg T) (hb : DSs X W body F) (hp : PassesOwn (model X.prog X.w) X.A X.env X.xe) (hc : X.calm = true := by rfl) (hs : ∀ x, foldedSetIterable iter X.env x = pure x := by intro _; rfl) : DS X W (.For tg iter body [] pos) (sForS fz T fi F) :=
  ps_weak (ps_for hp hc hi ht hb hs) fun D σ H ⟨Z, env, E, g⟩ => by
    obtain ⟨fps, E⟩ := E
    have E := E.freezes fz
    refine ⟨_, _, E.hide, (Go.out ⟨fps, E⟩ g).imp fun ds g J H1 fi e h1 h2 w => ?_⟩
    have E1 := (E.sm e).more (fi := fi) fun j d' ho => E.apart h1 ho
    exact st_loop (w _ (more_has (E.keep.trans e))) ⟨fps, E1⟩ (g.less more_z)
/-! ### while -/
def wloop (c : En → R Bool) (body : En → Fl) : Nat → En → Fl
  | 0, _ => .no
  | n + 1, env => onE (c env) env fun b => if b = true then (match body env with
      | .nx e => wloop c body n e
      | .ct e => wloop c body n e
      | .bk e => .nx e
      | r => r) else .nx env
def sWhile (n : Nat) (c : En → R Bool) (body : En → Fl) (env : En) : Fl := wloop c body n env
theorem ds_while {n : Nat} {c : Expr} {t : En → R Bool} (hc : DT X W c t) (hb : DSs X W body F) (hp : PassesOwn (model X.prog X.w) X.A X.env X.xe) : DS X W (.While c body [] pos) (sWhile n t F) :=
  ps_weak (ps_while hp hc hb) fun D σ H ⟨Z, env, E, g⟩ => by
    refine ⟨fun m σ H => ∃ env, EO X.K X.mg Z env σ H ∧ Go X.K X.mg W Z D (wloop t F m env), ⟨n, env, E, g⟩, ?_⟩
    rintro m σ H ⟨env, E, g⟩
    cases m with
    | zero => exact g.elim
    | succ m =>
      have E' := E
      obtain ⟨fps, E⟩ := E
      unfold wloop at g
      refine ⟨_, env, E.penv, (Go.out E' g).imp fun b g H' e => ?_⟩
      cases b with
      | true =>
        simp only [if_true] at g ⊢
        refine ⟨fun σ' H' => ∃ env, EO X.K X.mg Z env σ' H' ∧ Go X.K X.mg W Z D (wloop t F m env), fun σ' H' h => ⟨m, Nat.lt_succ_self m, h⟩, Z, env, E'.sm e, ?_⟩
        cases q : F env with
        | nx e' => rw [q] at g; exact fun σ' H' E' => ⟨e', E', g⟩
        | ct e' => rw [q] at g; exact fun σ' H' E' => ⟨e', E', g⟩
        | bk e' => rw [q] at g; exact g
        | rt d => rw [q] at g; exact g
        | ex c e' => rw [q] at g; exact g
        | no => rw [q] at g; exact g
      | false =>
        simp only [Bool.false_eq_true, if_false] at g ⊢
        exact g σ H' (E'.sm e)
end

/-! ### list comprehensions -/
abbrev W0 : WX := fun _ _ _ _ => False
def sure {a : Type} : R a → Option a
  | .ok x => some x
  | _ => none
def wipeE (env : En) : List Nat → En
  | [] => env
  | v :: vs => (wipeE env vs).set v .un
/-- the items: T's slots take each, c tells whether it is kept, f what is made of it -/
def cmp (T : Tg) (c : En → R Bool) (f : En → R D) (env : En) : List D → Option (List D)
  | [] => some []
  | d :: ds => (put T d env).bind fun e => (sure (c e)).bind fun b => if b = true then (sure (f e)).bind fun y => (cmp T c f env ds).map (y :: ·) else cmp T c f env ds
def eComp (vs : List Nat) (T : Tg) (fi : En → R (List D)) (c : En → R Bool) (f : En → R D) (env : En) : R D := fi env >>= fun ds => R.of (if ds.length ≤ sizeLine then (cmp T c f (wipeE env vs) ds).map .lst else none)
def eYes (_ : En) : R Bool := .ok true
theorem cmp_length {T : Tg} {c : En → R Bool} {f : En → R D} {env : En} : ∀ {ds rs : List D}, cmp T c f env ds = some rs → rs.length ≤ ds.length
  | [], rs, h => by simp only [cmp, Option.some.injEq] at h; subst h; simp
  | d :: ds, rs, h => by
    simp only [cmp, Option.bind_eq_some_iff] at h
    obtain ⟨e, h1, b, h2, h⟩ := h
    split at h
    · simp only [Option.bind_eq_some_iff, Option.map_eq_some_iff] at h
      obtain ⟨y, h3, r, h4, rfl⟩ := h
      have := cmp_length h4
      simp only [List.length_cons]; omega
    · have := cmp_length h
      simp only [List.length_cons]; omega
theorem wipe_ext {σ σ' : L2.St} : ∀ {vs : List Nat}, σ'.length = σ.length → (∀ j, j ∉ vs → σ'[j]? = σ[j]?) → wipe σ' vs = wipe σ vs := by
  intro vs hl h
  have out : ∀ (τ : L2.St) (vs : List Nat) (j : Nat), (wipe τ vs)[j]? = if j ∈ vs ∧ j < τ.length then some none else τ[j]? := by
    intro τ vs j
    induction vs with
    | nil => simp [wipe]
    | cons v vs ih =>
      unfold wipe
      by_cases c : v = j
      · subst c
        by_cases q : v < τ.length
        · rw [List.getElem?_set_self (by rw [wipe_length]; exact q), if_pos ⟨List.mem_cons_self, q⟩]
        · rw [List.getElem?_eq_none (by rw [List.length_set, wipe_length]; omega), if_neg (fun z => q z.2), List.getElem?_eq_none (by omega)]
      · rw [List.getElem?_set_ne c, ih]
        have : (j ∈ v :: vs) ↔ (j ∈ vs) := by simp [Ne.symm c]
        simp only [this]
  refine List.ext_getElem? fun j => ?_
  rw [out, out, hl]
  by_cases c : j ∈ vs
  · by_cases q : j < σ.length
    · rw [if_pos ⟨c, q⟩, if_pos ⟨c, q⟩]
    · rw [if_neg (fun z => q z.2), if_neg (fun z => q z.2), List.getElem?_eq_none (by omega), List.getElem?_eq_none (by omega)]
  · rw [if_neg (fun z => c z.1), if_neg (fun z => c z.1), h j c]
theorem look_wipeE {env : En} {j : Nat} {d : D} : ∀ {vs : List Nat}, look (wipeE env vs) j = some d → look env j = some d ∧ j ∉ vs
  | [], h => ⟨h, by simp⟩
  | v :: vs, h => by
    unfold wipeE at h
    by_cases hv : v < (wipeE env vs).length
    · rw [look_set hv] at h
      split at h
      · cases h
      · rename_i hj
        obtain ⟨h1, h2⟩ := look_wipeE h
        exact ⟨h1, by simp [h2, hj]⟩
    · rw [List.set_eq_of_length_le (by omega)] at h
      obtain ⟨h1, h2⟩ := look_wipeE h
      have := look_lt h
      exact ⟨h1, by simp only [List.mem_cons, not_or]; exact ⟨fun c => by subst c; exact hv this, h2⟩⟩
theorem wipeE_length {env : En} : ∀ {vs : List Nat}, (wipeE env vs).length = env.length
  | [] => rfl
  | v :: vs => by unfold wipeE; rw [List.length_set, wipeE_length]
theorem wipe_keep {σ : L2.St} {j : Nat} : ∀ {vs : List Nat}, j ∉ vs → (wipe σ vs)[j]? = σ[j]?
  | [], _ => rfl
  | v :: vs, h => by
    simp only [List.mem_cons, not_or] at h
    unfold wipe
    rw [List.getElem?_set_ne (Ne.symm h.1)]
    exact wipe_keep h.2
theorem PEnv.wipe {K : PySem.W.Frag} {mg : Str → Option Value} {S : Addr → Prop} {env : En} {σ : L2.St} {H : Hp} (P : PEnv K mg S env σ H) (vs : List Nat) : PEnv K mg S (wipeE env vs) (L2.wipe σ vs) H :=
  ⟨by rw [wipeE_length, wipe_length]; exact P.len, fun j d h => by
    obtain ⟨h1, h2⟩ := look_wipeE h
    rw [wipe_keep h2]
    exact P.val j d h1⟩
abbrev DTs (X : Cx) (W : WX) (ifs : List Expr) (c : En → R Bool) : Prop := PTs X ifs (tT X.K X.mg W c)
theorem dts_nil {X : Cx} {W : WX} : DTs X W [] eYes := ⟨fun pins s σ H Q I ⟨S, env, P, q⟩ => pts_nil.run pins s σ H Q I (q H (Sm.refl H))⟩
theorem dts_one {X : Cx} {W : WX} {c : Expr} {t : En → R Bool} (h : DT X W c t) : DTs X W [c] t := pts_one h
theorem sure_out {mg : Str → Option Value} {W : WX} {σ : L2.St} {H : Hp} {a : Type} {r : R a} {x : a} {k : a → Prop} (h : sure r = some x) (q : k x) : Out mg W σ H r k := by
  cases r <;> simp [sure] at h
  subst h; exact q
section
variable {K : PySem.W.Frag} {mg : Str → Option Value} {S : Addr → Prop} {env : En} {σ : L2.St} {H : Hp} {W : WX}
/-- the state of a comprehension after some items: D1 the new list, ys made so far -/
structure CS (K : PySem.W.Frag) (mg : Str → Option Value) (S : Addr → Prop) (H0 H1 : Hp) (L : Addr) (ys : List D) (H : Hp) (fresh : Bool) : Prop where
  keep : Sm H1 H
  ex : ∃ vs f, H L = some (.lst vs) ∧ VAll K mg H ys vs f ∧ L ∉ f ∧ (∀ b ∈ f, S b ∨ H0 b = none) ∧ (fresh = true → f.Nodup ∧ ∀ b ∈ f, H0 b = none ∧ Mut (H b))
theorem CS.push {S : Addr → Prop} {H0 H1 H2 : Hp} {L : Addr} {ys : List D} {fr : Bool} (c : CS K mg S H0 H1 L ys H fr) (hL : H1 L = none) (e : Sm H H2) {y : D} {v : V} {fp : List Addr} (hy : Val K mg H2 y v fp) (hLf : L ∉ fp) (hp : ∀ b ∈ fp, S b ∨ H0 b = none)
    (hfr : fr = true → fp.Nodup ∧ ∀ b ∈ fp, H b = none ∧ H0 b = none ∧ Mut (H2 b)) : ∃ vs, H2 L = some (.lst vs) ∧ vs.length = ys.length ∧ CS K mg S H0 H1 L (ys ++ [y]) (upd H2 L (.lst (vs ++ [v]))) fr := by
  obtain ⟨vs, f, h1, h2, h3, h4, h5⟩ := c.ex
  have hl2 := e _ _ h1
  have m : ∀ {fq}, L ∉ fq → Kp fq H2 (upd H2 L (.lst (vs ++ [v]))) := fun hq => Kp.upd hq (fun xs z => by rw [hl2] at z; cases z) (fun o xs z => by rw [hl2] at z; cases z) (fun x z => by rw [hl2] at z; cases z)
  refine ⟨vs, hl2, h2.length, fun b o hb => ?_, vs ++ [v], f ++ fp, upd_same, (VAll.kp _ (h2.sm e) (m h3)).append (VAll.one (Val.kp _ hy (m hLf))), fun z => (List.mem_append.mp z).elim h3 hLf, fun b hb => (List.mem_append.mp hb).elim (h4 b) (hp b), fun hf => ?_⟩
  · rw [upd_ne (ne_of_none hb hL)]
    exact e _ _ (c.keep _ _ hb)
  · obtain ⟨n1, p1⟩ := h5 hf
    obtain ⟨n2, p2⟩ := hfr hf
    refine ⟨List.nodup_append.mpr ⟨n1, n2, fun a ha b hb z => ?_⟩, fun b hb => ?_⟩
    · subst z
      obtain ⟨o, q, _⟩ := VAll.dom _ h2 a ha
      rw [(p2 a hb).1] at q; cases q
    · rcases List.mem_append.mp hb with z | z
      · refine ⟨(p1 b z).1, ?_⟩
        rw [upd_ne (fun cc => by subst cc; exact h3 z)]
        exact mut_sm e (p1 b z).2
      · refine ⟨(p2 b z).2.1, ?_⟩
        rw [upd_ne (fun cc => by subst cc; exact hLf z)]
        exact (p2 b z).2.2
theorem CS.sm {S : Addr → Prop} {H0 H1 H H2 : Hp} {L : Addr} {ys : List D} {fr : Bool} (c : CS K mg S H0 H1 L ys H fr) (hL : H1 L = none) (e : Sm H H2) : CS K mg S H0 H1 L ys H2 fr := by
  obtain ⟨vs, f, h1, h2, h3, h4, h5⟩ := c.ex
  exact ⟨c.keep.trans e, vs, f, e _ _ h1, h2.sm e, h3, h4, fun hf => ⟨(h5 hf).1, fun b hb => ⟨((h5 hf).2 b hb).1, mut_sm e ((h5 hf).2 b hb).2⟩⟩⟩
end
section
variable {X : Cx} {W : WX} {elt tg iter : Expr} {ifs : List Expr} {scope : Scope} {own : List (Str × Nat)} {pos : Pos} {T : Tg} {fi : En → R (List D)} {c : En → R Bool} {f : En → R D}
/-- the turns; te the element's reading: fr tells whether it is new -/
theorem st_comp {K : PySem.W.Frag} {mg : Str → Option Value} {S : Addr → Prop} {env : En} {σ : L2.St} {H H1 : Hp} {Q : VK} {J : It} {ds rs : List D} {fi : List Addr} {L : Addr} {vs : List Nat} {te : TE} {fr : Bool} (hvs : ∀ j ∈ slots T, j ∈ vs) (P : PEnv K mg S env σ H) (e : Sm H H1) (w : WalkD K mg H1 fi J ds)
    (hfi : ∀ a ∈ fi, S a ∨ H a = none) (hL : H1 L = none) (hz : ds.length ≤ sizeLine) (hr : cmp T c f (wipeE env vs) ds = some rs)
    (hte : ∀ {S' : Addr → Prop} {e1 : En} {σ1 : L2.St} {H3 : Hp} {Q1 : VK} {y : D}, PEnv K mg S' e1 σ1 H3 → sure (f e1) = some y → (∀ v H4 fp, Sm H3 H4 → Val K mg H4 y v fp → (∀ a ∈ fp, S' a ∨ H3 a = none) → (fr = true → fp.Nodup ∧ ∀ a ∈ fp, H3 a = none ∧ Mut (H4 a)) → Q1 v H4) → te σ1 H3 Q1)
    (k : ∀ H', CS K mg S H H1 L rs H' fr → Q (.ref L) H') :
    ∃ Wv : Nat → Nat → Hp → Prop, (∃ m, Wv 0 m (upd H1 L (.lst []))) ∧ ∀ i m H, Wv i m H → (J.stop i H ∧ Q (.ref L) H) ∨ (J.go i H ∧ ∃ Nx : Hp → Prop, (∀ H', Nx H' → ∃ m', m' < m ∧ Wv (i + 1) m' H') ∧ ∀ x H', J.yld i H x H' →
      tgH K T x (wipe σ vs) H' fun σ2 H2 => wipe σ2 vs = wipe σ vs ∧ tT K mg W0 c σ2 H2 fun b H3 => if b = true then te σ2 H3 fun y H4 => ∃ acc, H4 L = some (.lst acc) ∧ acc.length < sizeLine ∧ Nx (upd H4 L (.lst (acc ++ [y]))) else Nx H3) := by
  have hw := w H1 fun b o h _ => h
  refine ⟨fun i m H' => m = ds.length - i ∧ i ≤ ds.length ∧ ∃ ys zs, CS K mg S H H1 L ys H' fr ∧ ys.length ≤ i ∧ cmp T c f (wipeE env vs) (ds.drop i) = some zs ∧ ys ++ zs = rs,
    ⟨ds.length, by simp, Nat.zero_le _, [], rs, ⟨Sm.new hL, [], [], upd_same, VAll.nil, by simp, nf, fun _ => ⟨List.nodup_nil, nf⟩⟩, Nat.zero_le _, by simpa using hr, rfl⟩, ?_⟩
  rintro i m H' ⟨rfl, hi, ys, zs, cs, hyl, hc, hyz⟩
  obtain ⟨w1, w2⟩ := hw H' cs.keep i
  by_cases hl : i < ds.length
  · refine .inr ?_
    have hd : ds[i]? = some ds[i] := List.getElem?_eq_getElem hl
    obtain ⟨go, y⟩ := w1 _ hd
    refine ⟨go, fun H' => ∃ ys zs, CS K mg S H H1 L ys H' fr ∧ ys.length ≤ i + 1 ∧ cmp T c f (wipeE env vs) (ds.drop (i + 1)) = some zs ∧ ys ++ zs = rs, fun H' h => ⟨ds.length - (i + 1), by omega, rfl, hl, h⟩, fun x H2 hy => ?_⟩
    obtain ⟨e2, fp, hv, hfp⟩ := y x H2 hy
    rw [List.drop_eq_getElem_cons hl] at hc
    simp only [cmp, Option.bind_eq_some_iff] at hc
    obtain ⟨e1, he1, b, hb, hc⟩ := hc
    -- what may be changed of the block's values: of before, or of the first heap
    have P2 : PEnv K mg (fun a => (S a ∨ H a = none) ∧ a ≠ L) (wipeE env vs) (wipe σ vs) H2 := by
      have q := ((P.sm (e.trans (cs.keep.trans e2))).wipe vs)
      refine ⟨q.len, fun j d h => ?_⟩
      obtain ⟨h1, h2⟩ := look_wipeE h
      obtain ⟨v, g, g1, g2, g3⟩ := P.val j d h1
      refine ⟨v, g, by rw [wipe_keep h2]; exact g1, g2.sm (e.trans (cs.keep.trans e2)), fun a ha => ⟨.inl (g3 a ha), fun z => ?_⟩⟩
      subst z
      obtain ⟨o, ho, _⟩ := Val.dom _ g2 a ha
      rw [e a o ho] at hL; cases hL
    have hS : ∀ a ∈ fp, (S a ∨ H a = none) ∧ a ≠ L := fun a ha => ⟨hfi a (hfp a ha).1, fun z => by
      subst z; exact (hfp a ha).2 hL⟩
    refine tg_pe T he1 P2 hv hS fun σ2 P3 same len => ⟨?_, ?_⟩
    · rw [wipe_ext (σ := wipe σ vs) len (fun j hj => same j (fun z => hj (hvs j z)))]
      exact wipe_ext (wipe_length σ vs) (fun j hj => wipe_keep hj)
    · refine ⟨_, e1, P3, sure_out hb fun H3 e3 => ?_⟩
      have cs3 := cs.sm hL (e2.trans e3)
      cases b with
      | true =>
        simp only [if_true] at hc ⊢
        simp only [Option.bind_eq_some_iff, Option.map_eq_some_iff] at hc
        obtain ⟨y0, hy0, zs', hzs, rfl⟩ := hc
        refine hte (P3.sm e3) hy0 fun v H4 fp4 e4 hv4 hs4 hf4 => ?_
        obtain ⟨vs0, f0, q0, _⟩ := cs3.ex
        have hL3 : H3 L ≠ none := by rw [q0]; exact fun z => nomatch z
        have old : ∀ b, H3 b = none → H b = none := fun b hb => (e.trans (cs.keep.trans (e2.trans e3))).back hb
        obtain ⟨acc, a1, a2, a3⟩ := cs3.push hL e4 hv4 (fun z => (hs4 L z).elim (fun z => z.2 rfl) (fun z => hL3 z)) (fun b hb => (hs4 b hb).elim (fun z => z.1) fun z => .inr (old b z)) fun hf => ⟨(hf4 hf).1, fun b hb => ⟨((hf4 hf).2 b hb).1, old b ((hf4 hf).2 b hb).1, ((hf4 hf).2 b hb).2⟩⟩
        exact ⟨acc, a1, by omega, ys ++ [y0], zs', a3, by simp; omega, hzs, by simp [← hyz]⟩
      | false =>
        simp only [Bool.false_eq_true, if_false] at hc ⊢
        exact ⟨ys, zs, cs3, by omega, hc, hyz⟩
  · have hi' : i = ds.length := by omega
    subst hi'
    rw [List.drop_length] at hc
    simp only [cmp, Option.some.injEq] at hc
    subst hc
    rw [List.append_nil] at hyz
    subst hyz
    exact .inl ⟨w2 (Nat.le_refl _), k H' cs⟩
end
end DL
set_option Elab.async false
set_option linter.all false
set_option maxRecDepth 100000
set_option maxHeartbeats 2000000
namespace DL
open PySem PySem.Spec PyProof.Rows L2
section
variable {X : Cx} {W : WX} {elt tg iter : Expr} {ifs : List Expr} {scope : Scope} {own : List (Str × Nat)} {pos : Pos} {T : Tg} {fi : En → R (List D)} {c : En → R Bool} {f : En → R D}
theorem subset_vs {l vs : List Nat} (h : (l.all fun j => vs.contains j) = true) : ∀ j ∈ l, j ∈ vs := fun j hj => by
  have := List.all_eq_true.mp h j hj
  simpa using this
theorem comp_q (hvs : ((slots T).all fun j => (own.map (·.2)).contains j) = true) {σ : L2.St} {H : Hp} {Q : VK} (h : tQ X.K X.mg W (eComp (own.map (·.2)) T fi c f) σ H Q) : tLc (tI X.K X.mg W fi) (tgH X.K T) (tT X.K X.mg W0 c) (tE X.K X.mg W0 f) (own.map (·.2)) σ H Q := by
  obtain ⟨S, env, P, q⟩ := h
  refine ⟨S, env, P, q.bind.imp fun ds q J H1 fi e h1 h2 w L hL => ?_⟩
  obtain ⟨d, ed, q⟩ := Out.of q
  split at ed
  · rename_i hz
    simp only [Option.map_eq_some_iff] at ed
    obtain ⟨rs, hr, rfl⟩ := ed
    refine st_comp (fr := false) (subset_vs hvs) P e w h1 hL hz hr (fun P' hy k => ⟨_, _, P', sure_out hy fun v H4 fp e hv hp => k v H4 fp e hv hp (fun z => nomatch z)⟩) fun H' cs => ?_
    obtain ⟨vs, g, q1, q2, q3, q4, _⟩ := cs.ex
    exact q (.ref L) H' (L :: g) (e.trans cs.keep) (val_lst q1 q2) (.one (e.back hL) (by rw [q1]; trivial) q4 fun hi => VAll.imm _ q2 hi)
  · cases ed
theorem comp_f (hvs : ((slots T).all fun j => (own.map (·.2)).contains j) = true) {σ : L2.St} {H : Hp} {Q : VK} (h : tF X.K X.mg W (eComp (own.map (·.2)) T fi c f) σ H Q) : tLc (tI X.K X.mg W fi) (tgH X.K T) (tT X.K X.mg W0 c) (tF X.K X.mg W0 f) (own.map (·.2)) σ H Q := by
  obtain ⟨S, env, P, q⟩ := h
  refine ⟨S, env, P, q.bind.imp fun ds q J H1 fi e h1 h2 w L hL => ?_⟩
  obtain ⟨d, ed, q⟩ := Out.of q
  split at ed
  · rename_i hz
    simp only [Option.map_eq_some_iff] at ed
    obtain ⟨rs, hr, rfl⟩ := ed
    refine st_comp (fr := true) (subset_vs hvs) P e w h1 hL hz hr (fun P' hy k => ⟨_, _, P', sure_out hy fun v H4 fp e hv hn hp => k v H4 fp e hv (fun a ha => .inr (hp a ha).1) fun _ => ⟨hn, hp⟩⟩) fun H' cs => ?_
    obtain ⟨vs, g, q1, q2, q3, q4, q5⟩ := cs.ex
    obtain ⟨q6, q7⟩ := q5 rfl
    exact q (.ref L) H' (L :: g) (e.trans cs.keep) (val_lst q1 q2) (List.nodup_cons.mpr ⟨q3, q6⟩) fun a ha => by
      rcases List.mem_cons.mp ha with z | z
      · subst z; exact ⟨e.back hL, by rw [q1]; trivial⟩
      · exact q7 a z
  · cases ed
theorem dq_comp0 (hi : DI X W tg iter fi) (hN : X.N.Nodup) (ok : BlkOk X.N X.env.scope scope own)
    (hg : ∀ (s : Shared) (H : Hp) (C : Addr) (cl : List (Str × Addr)) (fp : List Addr), DG (X.blk s H scope (compEnvC scope cl C X.env) fp) tg T)
    (ht : ∀ (s : Shared) (H : Hp) (C : Addr) (cl : List (Str × Addr)) (fp : List Addr), DTs (X.blk s H scope (compEnvC scope cl C X.env) fp) W0 ifs c)
    (he : ∀ (s : Shared) (H : Hp) (C : Addr) (cl : List (Str × Addr)) (fp : List Addr), DE (X.blk s H scope (compEnvC scope cl C X.env) fp) W0 elt f)
    (hvs : ((slots T).all fun j => (own.map (·.2)).contains j) = true := by rfl) (hc : X.calm = true := by rfl) (hs : ∀ x, foldedSetIterable iter X.env x = pure x := by intro _; rfl) : DQ X W (.ListComp elt [⟨tg, iter, ifs, 0⟩] scope pos) (eComp (own.map (·.2)) T fi c f) :=
  pe_weak (pe_lc hc hN hi ok hg ht he hs) fun _ _ _ h => comp_q hvs h
theorem df_comp0 (hi : DI X W tg iter fi) (hN : X.N.Nodup) (ok : BlkOk X.N X.env.scope scope own)
    (hg : ∀ (s : Shared) (H : Hp) (C : Addr) (cl : List (Str × Addr)) (fp : List Addr), DG (X.blk s H scope (compEnvC scope cl C X.env) fp) tg T)
    (ht : ∀ (s : Shared) (H : Hp) (C : Addr) (cl : List (Str × Addr)) (fp : List Addr), DTs (X.blk s H scope (compEnvC scope cl C X.env) fp) W0 ifs c)
    (he : ∀ (s : Shared) (H : Hp) (C : Addr) (cl : List (Str × Addr)) (fp : List Addr), DF (X.blk s H scope (compEnvC scope cl C X.env) fp) W0 elt f)
    (hvs : ((slots T).all fun j => (own.map (·.2)).contains j) = true := by rfl) (hc : X.calm = true := by rfl) (hs : ∀ x, foldedSetIterable iter X.env x = pure x := by intro _; rfl) : DF X W (.ListComp elt [⟨tg, iter, ifs, 0⟩] scope pos) (eComp (own.map (·.2)) T fi c f) :=
  pe_weak (pe_lc hc hN hi ok hg ht he hs) fun _ _ _ h => comp_f hvs h
/-- y = [..] on one line -/
theorem ds_setLcF0 {i : Nat} {y : Str} {py spos : Pos} (hi : DI X W tg iter fi) (hN : X.N.Nodup) (ok : BlkOk X.N X.env.scope scope own)
    (hg : ∀ (s : Shared) (H : Hp) (C : Addr) (cl : List (Str × Addr)) (fp : List Addr), DG (X.blk s H scope (compEnvC scope cl C X.env) fp) tg T)
    (ht : ∀ (s : Shared) (H : Hp) (C : Addr) (cl : List (Str × Addr)) (fp : List Addr), DTs (X.blk s H scope (compEnvC scope cl C X.env) fp) W0 ifs c)
    (he : ∀ (s : Shared) (H : Hp) (C : Addr) (cl : List (Str × Addr)) (fp : List Addr), DF (X.blk s H scope (compEnvC scope cl C X.env) fp) W0 elt f)
    (hy : X.N[i]? = some y := by rfl) (hyl : X.env.scope.names.lookup y = some .local := by rfl) (hk : X.env.scope.kind = .function := by rfl) (hl : (py.line == pos.line) = true := by rfl) (ha : (scope.names.any fun (n, k) => n == y && (k == .local || k == .cell)) = false := by decide)
    (hvs : ((slots T).all fun j => (own.map (·.2)).contains j) = true := by rfl) (hc : X.calm = true := by rfl) (hs : ∀ x, foldedSetIterable iter X.env x = pure x := by intro _; rfl) : DS X W (.Assign [.Name y py] (.ListComp elt [⟨tg, iter, ifs, 0⟩] scope pos) spos) (sSetF i (eComp (own.map (·.2)) T fi c f)) :=
  ps_weak (ps_setLc hc hN hy hyl (sw_true hk hyl hl ha) hi ok hg ht he hs) fun D σ H ⟨Z, env, E, g⟩ => by
    have E' := E
    obtain ⟨fps, E⟩ := E
    refine comp_f hvs ⟨_, env, E.penv, (Go.out E' g).imp fun d g v H' fp e hv hn hp => ?_⟩
    split at g
    · rename_i hl
      have E2 := E.sm e
      refine g _ _ ⟨_, E2.put hl hv hn (fun a ha => ⟨E.keep.back (hp a ha).1, (hp a ha).2⟩) fun j d' _ hl' a ha z => ?_⟩
      obtain ⟨u, _, hu⟩ := E.val j d' hl'
      exact hu.gone z (hp a ha).1
    · exact g.elim
theorem ds_setLcS0 {i : Nat} {y : Str} {py spos : Pos} (hi : DI X W tg iter fi) (hN : X.N.Nodup) (ok : BlkOk X.N X.env.scope scope own)
    (hg : ∀ (s : Shared) (H : Hp) (C : Addr) (cl : List (Str × Addr)) (fp : List Addr), DG (X.blk s H scope (compEnvC scope cl C X.env) fp) tg T)
    (ht : ∀ (s : Shared) (H : Hp) (C : Addr) (cl : List (Str × Addr)) (fp : List Addr), DTs (X.blk s H scope (compEnvC scope cl C X.env) fp) W0 ifs c)
    (he : ∀ (s : Shared) (H : Hp) (C : Addr) (cl : List (Str × Addr)) (fp : List Addr), DE (X.blk s H scope (compEnvC scope cl C X.env) fp) W0 elt f)
    (hy : X.N[i]? = some y := by rfl) (hyl : X.env.scope.names.lookup y = some .local := by rfl) (hk : X.env.scope.kind = .function := by rfl) (hl : (py.line == pos.line) = true := by rfl) (ha : (scope.names.any fun (n, k) => n == y && (k == .local || k == .cell)) = false := by decide)
    (hvs : ((slots T).all fun j => (own.map (·.2)).contains j) = true := by rfl) (hc : X.calm = true := by rfl) (hs : ∀ x, foldedSetIterable iter X.env x = pure x := by intro _; rfl) : DS X W (.Assign [.Name y py] (.ListComp elt [⟨tg, iter, ifs, 0⟩] scope pos) spos) (sSetS i (eComp (own.map (·.2)) T fi c f)) :=
  ps_weak (ps_setLc hc hN hy hyl (sw_true hk hyl hl ha) hi ok hg ht he hs) fun D σ H ⟨Z, env, E, g⟩ => by
    have E' := E
    obtain ⟨fps, E⟩ := E
    refine comp_q hvs ⟨_, _, E.hide, (Go.out E' g).imp fun d g v H' fp e hv hp => ?_⟩
    split at g
    · rename_i hl
      exact g _ _ ⟨_, (E.sm e).share hl hv fun j d' _ ho => E.apart hp.prov ho⟩
    · exact g.elim
/-- all values at fp are new where the result can't be changed within -/
theorem ds_setLcT0 {i : Nat} {y : Str} {py spos : Pos} (hi : DI X W tg iter fi) (hN : X.N.Nodup) (ok : BlkOk X.N X.env.scope scope own)
    (hg : ∀ (s : Shared) (H : Hp) (C : Addr) (cl : List (Str × Addr)) (fp : List Addr), DG (X.blk s H scope (compEnvC scope cl C X.env) fp) tg T)
    (ht : ∀ (s : Shared) (H : Hp) (C : Addr) (cl : List (Str × Addr)) (fp : List Addr), DTs (X.blk s H scope (compEnvC scope cl C X.env) fp) W0 ifs c)
    (he : ∀ (s : Shared) (H : Hp) (C : Addr) (cl : List (Str × Addr)) (fp : List Addr), DE (X.blk s H scope (compEnvC scope cl C X.env) fp) W0 elt f)
    (hy : X.N[i]? = some y := by rfl) (hyl : X.env.scope.names.lookup y = some .local := by rfl) (hk : X.env.scope.kind = .function := by rfl) (hl : (py.line == pos.line) = true := by rfl) (ha : (scope.names.any fun (n, k) => n == y && (k == .local || k == .cell)) = false := by decide)
    (hvs : ((slots T).all fun j => (own.map (·.2)).contains j) = true := by rfl) (hc : X.calm = true := by rfl) (hs : ∀ x, foldedSetIterable iter X.env x = pure x := by intro _; rfl) : DS X W (.Assign [.Name y py] (.ListComp elt [⟨tg, iter, ifs, 0⟩] scope pos) spos) (sSetF i (eTop (eComp (own.map (·.2)) T fi c f))) :=
  ps_weak (ps_setLc hc hN hy hyl (sw_true hk hyl hl ha) hi ok hg ht he hs) fun D σ H ⟨Z, env, E, g⟩ => by
    have E' := E
    obtain ⟨fps, E⟩ := E
    refine comp_q hvs ⟨_, env, E.penv, (Go.out E' g).bind.imp fun d g v H' fp e hv hn => ?_⟩
    obtain ⟨d', e1, g⟩ := Out.of g
    split at e1
    · rename_i hi
      cases e1
      split at g
      · rename_i hl
        have E2 := E.sm e
        obtain ⟨n1, hp⟩ := hn.fresh hi
        refine g _ _ ⟨_, E2.put hl hv n1 (fun a ha => ⟨E.keep.back (hp a ha).1, (hp a ha).2⟩) fun j d' _ hl' a ha z => ?_⟩
        obtain ⟨u, _, hu⟩ := E.val j d' hl'
        exact hu.gone z (hp a ha).1
      · exact g.elim
    · cases e1
end
section
variable {X : Cx} {W : WX} {elt tg iter : Expr} {ifs : List Expr} {scope : Scope} {own : List (Str × Nat)} {pos : Pos} {T : Tg} {fi : En → R (List D)} {c : En → R Bool} {f : En → R D} {vs : List Nat}
theorem dq_comp (hi : DI X W tg iter fi) (hN : X.N.Nodup) (ok : BlkOk X.N X.env.scope scope own)
    (hg : ∀ (s : Shared) (H : Hp) (C : Addr) (cl : List (Str × Addr)) (fp : List Addr), DG (X.blk s H scope (compEnvC scope cl C X.env) fp) tg T)
    (ht : ∀ (s : Shared) (H : Hp) (C : Addr) (cl : List (Str × Addr)) (fp : List Addr), DTs (X.blk s H scope (compEnvC scope cl C X.env) fp) W0 ifs c)
    (he : ∀ (s : Shared) (H : Hp) (C : Addr) (cl : List (Str × Addr)) (fp : List Addr), DE (X.blk s H scope (compEnvC scope cl C X.env) fp) W0 elt f)
    (hov : own.map (·.2) = vs := by rfl) (hvs : ((slots T).all fun j => vs.contains j) = true := by rfl) (hc : X.calm = true := by rfl) (hs : ∀ x, foldedSetIterable iter X.env x = pure x := by intro _; rfl) : DQ X W (.ListComp elt [⟨tg, iter, ifs, 0⟩] scope pos) (eComp vs T fi c f) := by
  subst hov
  exact dq_comp0 (hi := hi) (hN := hN) (ok := ok) (hg := hg) (ht := ht) (he := he) (hvs := hvs) (hc := hc) (hs := hs)
theorem df_comp (hi : DI X W tg iter fi) (hN : X.N.Nodup) (ok : BlkOk X.N X.env.scope scope own)
    (hg : ∀ (s : Shared) (H : Hp) (C : Addr) (cl : List (Str × Addr)) (fp : List Addr), DG (X.blk s H scope (compEnvC scope cl C X.env) fp) tg T)
    (ht : ∀ (s : Shared) (H : Hp) (C : Addr) (cl : List (Str × Addr)) (fp : List Addr), DTs (X.blk s H scope (compEnvC scope cl C X.env) fp) W0 ifs c)
    (he : ∀ (s : Shared) (H : Hp) (C : Addr) (cl : List (Str × Addr)) (fp : List Addr), DF (X.blk s H scope (compEnvC scope cl C X.env) fp) W0 elt f)
    (hov : own.map (·.2) = vs := by rfl) (hvs : ((slots T).all fun j => vs.contains j) = true := by rfl) (hc : X.calm = true := by rfl) (hs : ∀ x, foldedSetIterable iter X.env x = pure x := by intro _; rfl) : DF X W (.ListComp elt [⟨tg, iter, ifs, 0⟩] scope pos) (eComp vs T fi c f) := by
  subst hov
  exact df_comp0 (hi := hi) (hN := hN) (ok := ok) (hg := hg) (ht := ht) (he := he) (hvs := hvs) (hc := hc) (hs := hs)
theorem ds_setLcF {i : Nat} {y : Str} {py spos : Pos} (hi : DI X W tg iter fi) (hN : X.N.Nodup) (ok : BlkOk X.N X.env.scope scope own)
    (hg : ∀ (s : Shared) (H : Hp) (C : Addr) (cl : List (Str × Addr)) (fp : List Addr), DG (X.blk s H scope (compEnvC scope cl C X.env) fp) tg T)
    (ht : ∀ (s : Shared) (H : Hp) (C : Addr) (cl : List (Str × Addr)) (fp : List Addr), DTs (X.blk s H scope (compEnvC scope cl C X.env) fp) W0 ifs c)
    (he : ∀ (s : Shared) (H : Hp) (C : Addr) (cl : List (Str × Addr)) (fp : List Addr), DF (X.blk s H scope (compEnvC scope cl C X.env) fp) W0 elt f)
    (hy : X.N[i]? = some y := by rfl) (hyl : X.env.scope.names.lookup y = some .local := by rfl) (hk : X.env.scope.kind = .function := by rfl) (hl : (py.line == pos.line) = true := by rfl) (ha : (scope.names.any fun (n, k) => n == y && (k == .local || k == .cell)) = false := by decide)
    (hov : own.map (·.2) = vs := by rfl) (hvs : ((slots T).all fun j => vs.contains j) = true := by rfl) (hc : X.calm = true := by rfl) (hs : ∀ x, foldedSetIterable iter X.env x = pure x := by intro _; rfl) : DS X W (.Assign [.Name y py] (.ListComp elt [⟨tg, iter, ifs, 0⟩] scope pos) spos) (sSetF i (eComp vs T fi c f)) := by
  subst hov
  exact ds_setLcF0 (hi := hi) (hN := hN) (ok := ok) (hg := hg) (ht := ht) (he := he) (hy := hy) (hyl := hyl) (hk := hk) (hl := hl) (ha := ha) (hvs := hvs) (hc := hc) (hs := hs)
theorem ds_setLcS {i : Nat} {y : Str} {py spos : Pos} (hi : DI X W tg iter fi) (hN : X.N.Nodup) (ok : BlkOk X.N X.env.scope scope own)
    (hg : ∀ (s : Shared) (H : Hp) (C : Addr) (cl : List (Str × Addr)) (fp : List Addr), DG (X.blk s H scope (compEnvC scope cl C X.env) fp) tg T)
    (ht : ∀ (s : Shared) (H : Hp) (C : Addr) (cl : List (Str × Addr)) (fp : List Addr), DTs (X.blk s H scope (compEnvC scope cl C X.env) fp) W0 ifs c)
    (he : ∀ (s : Shared) (H : Hp) (C : Addr) (cl : List (Str × Addr)) (fp : List Addr), DE (X.blk s H scope (compEnvC scope cl C X.env) fp) W0 elt f)
    (hy : X.N[i]? = some y := by rfl) (hyl : X.env.scope.names.lookup y = some .local := by rfl) (hk : X.env.scope.kind = .function := by rfl) (hl : (py.line == pos.line) = true := by rfl) (ha : (scope.names.any fun (n, k) => n == y && (k == .local || k == .cell)) = false := by decide)
    (hov : own.map (·.2) = vs := by rfl) (hvs : ((slots T).all fun j => vs.contains j) = true := by rfl) (hc : X.calm = true := by rfl) (hs : ∀ x, foldedSetIterable iter X.env x = pure x := by intro _; rfl) : DS X W (.Assign [.Name y py] (.ListComp elt [⟨tg, iter, ifs, 0⟩] scope pos) spos) (sSetS i (eComp vs T fi c f)) := by
  subst hov
  exact ds_setLcS0 (hi := hi) (hN := hN) (ok := ok) (hg := hg) (ht := ht) (he := he) (hy := hy) (hyl := hyl) (hk := hk) (hl := hl) (ha := ha) (hvs := hvs) (hc := hc) (hs := hs)
theorem ds_setLcT {i : Nat} {y : Str} {py spos : Pos} (hi : DI X W tg iter fi) (hN : X.N.Nodup) (ok : BlkOk X.N X.env.scope scope own)
    (hg : ∀ (s : Shared) (H : Hp) (C : Addr) (cl : List (Str × Addr)) (fp : List Addr), DG (X.blk s H scope (compEnvC scope cl C X.env) fp) tg T)
    (ht : ∀ (s : Shared) (H : Hp) (C : Addr) (cl : List (Str × Addr)) (fp : List Addr), DTs (X.blk s H scope (compEnvC scope cl C X.env) fp) W0 ifs c)
    (he : ∀ (s : Shared) (H : Hp) (C : Addr) (cl : List (Str × Addr)) (fp : List Addr), DE (X.blk s H scope (compEnvC scope cl C X.env) fp) W0 elt f)
    (hy : X.N[i]? = some y := by rfl) (hyl : X.env.scope.names.lookup y = some .local := by rfl) (hk : X.env.scope.kind = .function := by rfl) (hl : (py.line == pos.line) = true := by rfl) (ha : (scope.names.any fun (n, k) => n == y && (k == .local || k == .cell)) = false := by decide)
    (hov : own.map (·.2) = vs := by rfl) (hvs : ((slots T).all fun j => vs.contains j) = true := by rfl) (hc : X.calm = true := by rfl) (hs : ∀ x, foldedSetIterable iter X.env x = pure x := by intro _; rfl) : DS X W (.Assign [.Name y py] (.ListComp elt [⟨tg, iter, ifs, 0⟩] scope pos) spos) (sSetF i (eTop (eComp vs T fi c f))) := by
  subst hov
  exact ds_setLcT0 (hi := hi) (hN := hN) (ok := ok) (hg := hg) (ht := ht) (he := he) (hy := hy) (hyl := hyl) (hk := hk) (hl := hl) (ha := ha) (hvs := hvs) (hc := hc) (hs := hs)
end
end DL
set_option Elab.async false
set_option linter.all false
set_option maxRecDepth 100000
set_option maxHeartbeats 2000000
namespace DL
open PySem PySem.Spec PyProof.Rows L2
/-! ### defs -/
/-- what a def computes: n arguments, N its names -/
def runD (n : Nat) (m : Nat) (G : En → Fl) (ds : List D) : R D := if ds.length = n then (match G (ds.map .sh ++ List.replicate (m - n) .un) with
  | .nx _ => .ok .non
  | .rt d => .ok d
  | .ex c _ => .ex c
  | _ => .no) else .no
/-- the promise of a def that computes F -/
def spD (K : PySem.W.Frag) (mg : Str → Option Value) (n : Nat) (F : List D → R D) : Sp := fun vs H Q E => vs.length = n ∧ ∃ ds fp, VAll K mg H ds vs fp ∧ Out mg (fun cls d _ H => E cls d H) [] H (F ds) fun d => AfterF K mg H d Q
theorem VAll.fps {K : PySem.W.Frag} {mg : Str → Option Value} {H : Hp} : ∀ {ds : List D} {vs : List V} {fp : List Addr}, VAll K mg H ds vs fp → ∃ fps : Nat → List Addr, ∀ i d, ds[i]? = some d → ∃ v, vs[i]? = some v ∧ Val K mg H d v (fps i)
  | [], vs, fp, h => ⟨fun _ => [], fun i d z => by simp at z⟩
  | d :: ds, vs, fp, h => by
    simp only [VAll] at h
    obtain ⟨v, vr, f, g, ev, ef, h1, h2⟩ := h
    obtain ⟨fps, q⟩ := VAll.fps h2
    refine ⟨fun i => match i with | 0 => f | i + 1 => fps i, fun i e he => ?_⟩
    cases i with
    | zero =>
      simp only [List.getElem?_cons_zero, Option.some.injEq] at he
      subst he
      exact ⟨v, by rw [ev]; rfl, h1⟩
    | succ i =>
      simp only [List.getElem?_cons_succ] at he
      obtain ⟨u, q1, q2⟩ := q i e he
      exact ⟨u, by rw [ev]; exact q1, q2⟩
theorem start_eo {K : PySem.W.Frag} {mg : Str → Option Value} {H : Hp} {ds : List D} {vs : List V} {fp : List Addr} {N : List Str} (h : VAll K mg H ds vs fp) : EO K mg H (ds.map .sh ++ List.replicate (N.length - ds.length) .un) (start N vs) H := by
  obtain ⟨fps, q⟩ := h.fps
  have hl := h.length
  refine ⟨fps, by simp [L2.start, hl], fun i d hd => ?_, fun i d hd => ?_, Sm.refl H⟩
  · unfold look at hd
    by_cases c : i < ds.length
    · rw [List.getElem?_append_left (by simpa using c), List.getElem?_map, List.getElem?_eq_getElem c] at hd
      simp only [Option.map_some, Option.bind_some, Sl.val, Option.some.injEq] at hd
      obtain ⟨v, q1, q2⟩ := q i d (by rw [List.getElem?_eq_getElem c, hd])
      refine ⟨v, ?_, q2⟩
      unfold L2.start
      rw [List.getElem?_append_left (by simpa [hl] using c), List.getElem?_map, q1]; rfl
    · rw [List.getElem?_append_right (by simpa using c), List.getElem?_replicate] at hd
      split at hd <;> simp [Sl.val] at hd
  · by_cases c : i < ds.length
    · rw [List.getElem?_append_left (by simpa using c), List.getElem?_map, List.getElem?_eq_getElem c] at hd
      cases hd
    · rw [List.getElem?_append_right (by simpa using c), List.getElem?_replicate] at hd
      split at hd <;> cases hd
section
variable {P : Program} {w : World} {K : PySem.W.Frag} {mg : Str → Option Value} {base : Heap}
/-- a def by its body -/
theorem okD {x qual : Str} {st : Stmt} {f : Addr} {fd : FuncData} {N ps : List Str} {k n : Nat} {G : En → Fl} (F : Fun K x qual st f fd) (S : FnScope N ps (defScope st)) (hn : ps.length = n)
    (body : ∀ (cdv : Value) (A : Around) (outer : List Env) (s : Shared) (H : Hp) (E : XK), Room k (A.deeper (envOfC qual (defScope st) s.heap.objs.size f cdv)) → Takes (cxOf (L2.CX P w) P w K mg base N qual (defScope st) f cdv A outer s H E) (fun cls d _ H => E cls d H) →
      DSs (cxOf (L2.CX P w) P w K mg base N qual (defScope st) f cdv A outer s H E) (fun cls d _ H => E cls d H) (defBody st) G) :
    FnOk P w K mg base (L2.CX P w) (k + 1) f fd ps (spD K mg n (runD n N.length G)) := by
  subst hn
  refine F.okX S (fun vs H Q E h => h.1) fun cdv A outer s H vs Q E hr h => ⟨_, body cdv A outer s H E hr (takes_of rfl rfl rfl rfl), ?_⟩
  obtain ⟨hl, ds, fp, hv, q⟩ := h
  refine ⟨H, _, start_eo hv, ?_⟩
  unfold runD at q
  have hd : ds.length = ps.length := hv.length.symm.trans hl
  rw [if_pos hd] at q
  rw [← hd] at q
  show Go K mg _ H _ (G (ds.map .sh ++ List.replicate (N.length - ds.length) .un))
  cases e : G (ds.map .sh ++ List.replicate (N.length - ds.length) .un) with
  | nx e' =>
    rw [e] at q
    exact fun σ' H' E' => q .non H' [] (let ⟨_, z⟩ := E'; z.keep) val_non List.nodup_nil nf
  | rt d => rw [e] at q; exact q
  | bk e' => rw [e] at q; exact q.elim
  | ct e' => rw [e] at q; exact q.elim
  | ex c e' => rw [e] at q; exact fun C σ' H' m E' => q C H' m (let ⟨_, z⟩ := E'; z.keep)
  | no => rw [e] at q; exact q
end
/-! ### calls -/
def eCallF (n : Nat) (F : List D → R D) (g : En → R (List D)) (env : En) : R D := g env >>= fun ds => if ds.length = n then F ds else .no
section
variable {X : Cx} {W : WX} {k n : Nat} {f : Addr} {fd : FuncData} {ps : List Str} {F : List D → R D} {x : Str} {p pos : Pos} {e : Expr} {es : List Expr} {g : En → R (List D)}
theorem df_callF (G : FnOk X.prog X.w X.K X.mg X.base (L2.CX X.prog X.w) k f fd ps (spD X.K X.mg n F)) (hr : Room k X.A) (hm : X.mg x = some (.ref f)) (hk : PySem.W.keepIn X.K (.ref f) = true) (hb : Binds X.K fd ps []) (tk : Takes X W)
    (ha : DA X W (e :: es) g) (hg : Gl X x := by rfl) (hdb : (x == ("__debug__" : Str)) = false := by decide) (he : starEach (e :: es) X.env = (false, eval e X.env) :: starEach es X.env := by rfl) (hpl : (backTo pos (starEach es X.env)).any (·.1) = false := by rfl) :
    DF X W (.Call (.Name x p) (e :: es) [] pos) (eCallF n F g) :=
  pe_weak (pe_callS G hr hg hm hk hb (fun σ => passAt tk σ) ha hdb he hpl) fun σ H Q ⟨S, env, P, q⟩ => by
    refine stA P q fun ds vs H1 fp e hv hp q => ?_
    split at q
    · rename_i hl
      refine ⟨by rw [hv.length, hl], ds, fp, hv, ?_⟩
      cases r : F ds with
      | ok d => rw [r] at q; exact fun v H' f' e' hv' hn' hp' => q v H' f' (e.trans e') hv' hn' fun a ha => ⟨e.back (hp' a ha).1, (hp' a ha).2⟩
      | ex c => rw [r] at q; exact fun C H' m e' => q C H' m e'
      | no => rw [r] at q; exact q
    · exact q.elim
end
end DL
set_option Elab.async false
set_option linter.all false
set_option maxRecDepth 100000
set_option maxHeartbeats 2000000
namespace DL
open PySem PySem.Spec PyProof.Rows L2
/-! ### a, b = e -/
def sPut (T : Tg) (d : D) (env : En) : Fl := match put T d env with
  | some e => .nx e
  | none => .no
/-- e's value new -/
def sPutF (T : Tg) (f : En → R D) (env : En) : Fl := onE (f env) env fun d => sPut T d env
/-- e of shared values alone -/
def sPutS (T : Tg) (f : En → R D) (env : En) : Fl := onE (f (env.map hideS)) env fun d => sPut T d env
section
variable {X : Cx} {W : WX} {pos : Pos} {tg e : Expr} {T : Tg} {f : En → R D}
theorem ds_putF (h : DF X W e f) (hg : DG X tg T) (hs : swapsWithSole [tg] e pos.line X.env = pure false := by rfl) (hw : swappedStores [tg] e X.env = pure none := by rfl)
    (h1 : (assignEach [tg] X.env).map (·.2) = [assign tg X.env] := by rfl) : DS X W (.Assign [tg] e pos) (sPutF T f) := ps_weak (ps_asg h hg hs hw h1) fun D σ H ⟨Z, env, E, g⟩ => by
  have E' := E
  obtain ⟨fps, E⟩ := E
  refine ⟨_, env, E.penv, (Go.out E' g).imp fun d g v H' fp e hv hn hp => ?_⟩
  unfold sPut at g
  split at g
  · rename_i e1 he1
    refine tg_er T he1 (E.sm e) hv (fun j d' ho a ha z => ?_) fun σ2 fps2 E2 _ => g _ _ ⟨_, E2⟩
    obtain ⟨u, _, hu⟩ := E.val j d' (look_ow ho)
    exact hu.gone ha (hp a z).1
  · exact g.elim
theorem ds_putS (h : DE X W e f) (hg : DG X tg T) (hs : swapsWithSole [tg] e pos.line X.env = pure false := by rfl) (hw : swappedStores [tg] e X.env = pure none := by rfl)
    (h1 : (assignEach [tg] X.env).map (·.2) = [assign tg X.env] := by rfl) : DS X W (.Assign [tg] e pos) (sPutS T f) := ps_weak (ps_asg h hg hs hw h1) fun D σ H ⟨Z, env, E, g⟩ => by
  have E' := E
  obtain ⟨fps, E⟩ := E
  refine ⟨_, _, E.hide, (Go.out E' g).imp fun d g v H' fp e hv hp => ?_⟩
  unfold sPut at g
  split at g
  · rename_i e1 he1
    exact tg_er T he1 (E.sm e) hv (fun j d' ho => E.apart hp ho) fun σ2 fps2 E2 _ => g _ _ ⟨_, E2⟩
  · exact g.elim
/-! ### x, y = a, b -/
def sPar (i j : Nat) (f : En → R (List D)) (env : En) : Fl := onE (f (env.map hideS)) env fun ds => match ds with
  | [d1, d2] => if i < env.length ∧ j < env.length ∧ i ≠ j then .nx ((env.set i (.sh d1)).set j (.sh d2)) else .no
  | _ => .no
theorem ds_par {i j : Nat} {x y : Str} {a b : Expr} {px py pt : Pos} {kt k2 pt2} {f : En → R (List D)} (ha : DA X W [a, b] f) (hN : X.N.Nodup) (hi : X.N[i]? = some x := by rfl) (hj : X.N[j]? = some y := by rfl) (hij : i ≠ j := by decide)
    (hx : X.env.scope.names.lookup x = some .local := by rfl) (hy : X.env.scope.names.lookup y = some .local := by rfl)
    (hw : swappedStores [.Tuple [.Name x px, .Name y py] kt pt] (.Tuple [a, b] k2 pt2) X.env = pure (some [x, y]) := by rfl) (hc : X.calm = true := by rfl)
    (hs : swapsWithSole [.Tuple [.Name x px, .Name y py] kt pt] (.Tuple [a, b] k2 pt2) pos.line X.env = pure false := by rfl) :
    DS X W (.Assign [.Tuple [.Name x px, .Name y py] kt pt] (.Tuple [a, b] k2 pt2) pos) (sPar i j f) := ps_weak (ps_par hc hN hi hj hij hx hy ha hw hs) fun D σ H ⟨Z, env, E, g⟩ => by
  have E' := E
  obtain ⟨fps, E⟩ := E
  refine ⟨_, _, E.hide, (Go.out E' g).imp fun ds g vs H' fp e hv hp => ?_⟩
  split at g
  · rename_i d1 d2
    split at g
    · rename_i hl
      obtain ⟨v, v2, f1, f2, ev, ef, h1, h2⟩ := hv.inv2
      have ap : ∀ j d', env[j]? = some (Sl.ow d') → ∀ a ∈ fps j, a ∉ fp := fun j d' ho => E.apart hp ho
      refine ⟨v, v2, ev, g _ _ ⟨_, ((E.sm e).share hl.1 h1 fun k d' _ ho a ha z => ap k d' ho a ha ?_).share (by simpa using hl.2.1) h2 fun k d' hk ho a ha z => ?_⟩⟩
      · rw [ef]; exact List.mem_append_left _ z
      · by_cases c : k = i
        · subst c; rw [List.getElem?_set_self hl.1] at ho; cases ho
        · rw [List.getElem?_set_ne (Ne.symm c)] at ho
          simp only [c, if_false] at ha
          exact ap k d' ho a ha (by rw [ef]; exact List.mem_append_right _ z)
    · exact g.elim
  · exact g.elim
/-! ### x op= e with numbers -/
def sAug (i : Nat) (F : Int → Int → Option Int) (f : En → R D) (env : En) : Fl := match look env i with
  | some (.int a) => onE (f env) env fun d => match d with
    | .int b => match F a b with
      | some z => .nx (env.set i (.ow (.int z)))
      | none => .no
    | _ => .no
  | _ => .no
def tipI (F : Int → Int → Option Int) : TIp := fun x y H Q => ∃ a b z, x = .int a ∧ y = .int b ∧ F a b = some z ∧ Q (.int z) H
theorem ds_aug {i : Nat} {x : Str} {op : Operator} {F : Int → Int → Option Int} {pos' : Pos} (ho : PIp X op (tipI F)) (h : DE X W e f) (hN : X.N.Nodup) (hi : X.N[i]? = some x := by rfl) (hx : Loc X.env.scope x := by first | exact Or.inl rfl | exact Or.inr rfl)
    (hf : X.fn x = true ∨ X.env.scope.names.lookup x = some .local := by first | exact .inl rfl | exact .inr rfl | assumption) : DS X W (.AugAssign (.Name x pos') op e pos) (sAug i F f) := ps_weak (ps_aug hN hi hx h ho hf) fun D σ H ⟨Z, env, E, g⟩ => by
  have E' := E
  obtain ⟨fps, E⟩ := E
  unfold sAug at g
  split at g
  · rename_i a ha
    obtain ⟨v, h1, h2⟩ := E.val i _ ha
    simp only [Val] at h2
    refine ⟨v, h1, _, env, E.penv, (Go.out E' g).imp fun d g u H' fp e hv hp => ?_⟩
    split at g
    · rename_i b
      split at g
      · rename_i z hz
        simp only [Val] at hv
        exact ⟨a, b, z, h2.1, hv.1, hz, g _ _ ⟨_, (E.sm e).put (look_lt ha) val_int List.nodup_nil nf fun _ _ _ _ => nf⟩⟩
      · exact g.elim
    · exact g.elim
  · exact g.elim
end
/-! ### try -/
def sTry (cat : List (Str × Bool)) (F G : En → Fl) (env : En) : Fl := match F env with
  | .ex x e => match cat.lookup x with
    | some true => G e
    | some false => .ex x e
    | none => .no
  | r => r
theorem lookup_mem {cat : List (Str × Bool)} {x : Str} {b : Bool} (h : cat.lookup x = some b) : (x, b) ∈ cat := by
  induction cat with
  | nil => cases h
  | cons p r ih =>
    obtain ⟨y, c⟩ := p
    simp only [List.lookup] at h
    split at h
    · rename_i q
      have : x = y := by simpa using q
      subst this
      cases h
      exact List.mem_cons_self
    · exact List.mem_cons_of_mem _ (ih h)
theorem ds_try {X : Cx} {W : WX} {x : Str} {c : Value} {body suite : List Stmt} {b₀ : Stmt} {np pos pos' : Pos} {F G : En → Fl} {cat : List (Str × Bool)} (hs : X.stack = X.env :: X.outer) (hf : X.env.frame = some X.env.locals) (hc : Names X x c) (tk : Takes X W)
    (hcat : ∀ p ∈ cat, ∀ C, X.mg p.1 = some (.ref C) → PySem.W.exmOne X.K (.ref C) c = some p.2)
    (hb : ∀ (W : WX) (pn : List (Addr × Obj)) (xe : Value → Shared → Prop), Takes (X.tr pn xe) W → PassesOwn (model X.prog X.w) X.A X.env xe → DSs (X.tr pn xe) W body F)
    (hsu : ∀ (a : Addr) (oe : Obj) (cls : Value) (d : Option Addr) (pn : List (Addr × Obj)), DSs (X.suite a ((a, oe) :: pn)) W (b₀ :: suite) G) :
    DS X W (.Try body [.ExceptHandler (some (.Name x np)) none (b₀ :: suite) pos'] [] [] pos) (sTry cat F G) :=
  ps_weak (ps_try_only (ts := fun _ _ _ => tS X.K X.mg W G) (tb := fun W => tS X.K X.mg W F) hs hf hc tk hb fun a oe cls d pn _ _ => hsu a oe cls d pn) fun D σ H ⟨Z, env, E, g⟩ => by
    refine ⟨Z, env, E, ?_⟩
    unfold sTry at g
    cases q : F env with
    | nx e => rw [q] at g; exact g
    | rt d => rw [q] at g; exact g
    | bk e => rw [q] at g; exact g
    | ct e => rw [q] at g; exact g
    | no => rw [q] at g; exact g
    | ex y e =>
      rw [q] at g
      simp only at g
      intro C σ' H' m E1
      cases l : cat.lookup y with
      | none => rw [l] at g; exact g.elim
      | some b =>
        rw [l] at g
        refine ⟨b, hcat _ (lookup_mem l) C m, fun hb a ha => ?_, fun hb => ?_⟩
        · subst hb
          exact ⟨Z, e, E1, g⟩
        · subst hb
          exact g C σ' H' m E1
end DL
set_option Elab.async false
set_option linter.all false
set_option maxRecDepth 100000
set_option maxHeartbeats 2000000
namespace DL
open PySem PySem.Spec PyProof.Rows L2
/-! ### sorted -/
def insD {α : Type} (le : α → α → Bool) (a : α) : List α → List α
  | [] => [a]
  | b :: l => if le a b = true then a :: b :: l else b :: insD le a l
def isort {α : Type} (le : α → α → Bool) : List α → List α
  | [] => []
  | a :: l => insD le a (isort le l)
theorem insD_split {α : Type} {le : α → α → Bool} {a : α} : ∀ {l1 l2 : List α}, (∀ b ∈ l1, le a b = false) → (∀ b ∈ l2, le a b = true) → insD le a (l1 ++ l2) = l1 ++ a :: l2
  | [], [], _, _ => rfl
  | [], b :: l, _, h => by simp only [List.nil_append, insD]; rw [if_pos (h b List.mem_cons_self)]
  | b :: l1, l2, h1, h2 => by
    simp only [List.cons_append, insD]
    rw [if_neg (by rw [h1 b List.mem_cons_self]; decide), insD_split (fun c hc => h1 c (List.mem_cons_of_mem _ hc)) h2]
theorem isort_eq {α : Type} {le : α → α → Bool} (tr : ∀ a b c, le a b = true → le b c = true → le a c = true) (tot : ∀ a b, (le a b || le b a) = true) : ∀ l : List α, l.mergeSort le = isort le l
  | [] => by simp [isort]
  | a :: l => by
    obtain ⟨l1, l2, h1, h2, h3⟩ := List.mergeSort_cons (le := le) (fun a b c => tr a b c) (fun a b => tot a b) a l
    have s := List.pairwise_mergeSort (le := le) (fun a b c => tr a b c) (fun a b => tot a b) (a :: l)
    rw [h1] at s
    rw [h1, isort, ← isort_eq tr tot l, h2]
    refine (insD_split (fun b hb => by simpa using h3 b hb) fun b hb => ?_).symm
    have := (List.pairwise_append.mp s).2.1
    exact (List.pairwise_cons.mp this).1 b hb
def leS (a b : D) : Bool := !PySem.W.dataLt (toPy b) (toPy a)
/-- no None, no tuples; or tuples with an item at least -/
def sorty (ds : List D) : Bool := (ds.all fun d => match toPy d with | .tuple (_ :: _) => true | _ => false) || (ds.all fun d => match toPy d with | .none => false | .tuple _ => false | _ => true)
def sortOk (ds : List D) : Bool := plainAll ds && sorty ds && ds.all (fun d => ds.all fun e => PySem.W.alike (toPy d) (toPy e)) && ds.all fun d => decide ((toPy d).depth ≤ 40)
def sortF : List D → Option D
  | [d] => (items d).bind fun ds => if sortOk ds = true then some (.lst (isort leS ds)) else none
  | _ => none
theorem plain_mem : ∀ {ds : List D} {d : D}, plainAll ds = true → d ∈ ds → plain d = true
  | e :: ds, d, h, m => by
    simp only [plainAll, Bool.and_eq_true] at h
    rcases List.mem_cons.mp m with rfl | m
    · exact h.1
    · exact plain_mem h.2 m
theorem isort_perm {α : Type} {le : α → α → Bool} : ∀ l : List α, (isort le l).Perm l
  | [] => .nil
  | a :: l => by
    have ip : ∀ l : List α, (insD le a l).Perm (a :: l) := fun l => by
      induction l with
      | nil => exact .refl _
      | cons b l ih =>
        unfold insD
        split
        · exact .refl _
        · exact (List.Perm.cons b ih).trans (.swap _ _ _)
    exact (ip _).trans (.cons a (isort_perm l))
section
variable {K : PySem.W.Frag} {mg : Str → Option Value} {H : Hp}
/-- values by their places -/
theorem VAll.of_zip {fp : List Addr} : ∀ {l : List (V × D)}, (∀ p ∈ l, ∃ f, Val K mg H p.2 p.1 f ∧ ∀ b ∈ f, b ∈ fp) → ∃ g, VAll K mg H (l.map (·.2)) (l.map (·.1)) g ∧ ∀ b ∈ g, b ∈ fp
  | [], _ => ⟨[], VAll.nil, nf⟩
  | p :: l, h => by
    obtain ⟨f, h1, h2⟩ := h p List.mem_cons_self
    obtain ⟨g, h3, h4⟩ := VAll.of_zip (l := l) fun q hq => h q (List.mem_cons_of_mem _ hq)
    exact ⟨f ++ g, VAll.cons h1 h3, fun b hb => (List.mem_append.mp hb).elim (h2 b) (h4 b)⟩
theorem VAll.zip_mem {fp : List Addr} : ∀ {ds : List D} {vs : List V} {f : List Addr}, VAll K mg H ds vs f → (∀ b ∈ f, b ∈ fp) → ∀ p ∈ vs.zip ds, ∃ f, Val K mg H p.2 p.1 f ∧ ∀ b ∈ f, b ∈ fp
  | [], vs, f, h, hf, p, hp => by simp at hp
  | d :: ds, vs, f, h, hf, p, hp => by
    simp only [VAll] at h
    obtain ⟨v, vr, g1, g2, ev, ef, h1, h2⟩ := h
    subst ev
    rcases List.mem_cons.mp hp with z | z
    · subst z
      exact ⟨g1, h1, fun b hb => hf b (by rw [ef]; exact List.mem_append_left _ hb)⟩
    · exact VAll.zip_mem h2 (fun b hb => hf b (by rw [ef]; exact List.mem_append_right _ hb)) p z
end
theorem imm_all : ∀ {ds : List D}, immAll ds = true ↔ ∀ d ∈ ds, imm d = true
  | [] => by simp [immAll]
  | d :: ds => by simp only [immAll, Bool.and_eq_true, imm_all (ds := ds), List.mem_cons, forall_eq_or_imp]
theorem sort_each {its : List Value} {vs : List V} {ds : List D} (r : Vals vs its) (hl : vs.length = ds.length) : PySem.W.EachIs (fun u (p : V × D) => RelV p.1 u) its (vs.zip ds) := by
  induction r generalizing ds with
  | nil => cases ds <;> first | exact .nil | simp at hl
  | cons h t ih =>
    cases ds with
    | nil => simp at hl
    | cons d ds => exact .cons h (ih (by simpa using hl))
theorem vals_each {its : List Value} {l : List (V × D)} (e : PySem.W.EachIs (fun u (p : V × D) => RelV p.1 u) its l) : Vals (l.map (·.1)) its := by
  induction e with
  | nil => exact .nil
  | cons h t ih => exact .cons h ih
section
variable {X : Cx}
theorem cr_sortedD (hu : X.A.units + 64 < cLine) : CallR X (.builtin "sorted") (rCD X.K X.mg sortF) := by
  intro pins s σ H xs us Q I r ⟨ds0, fp, hv, d, e, q⟩
  match ds0, e with
  | [d0], e =>
    simp only [sortF, Option.bind_eq_some_iff] at e
    obtain ⟨ds, e1, e⟩ := e
    split at e
    · rename_i hok
      cases e
      obtain ⟨v, exs, hv1⟩ := hv.inv1; clear hv; subst exs; have hv := hv1; clear hv1
      obtain ⟨a, vs, f, ex, hsq, hv', hf⟩ := hv.seq e1
      subst ex
      rw [Vals.ref1 r]
      simp only [sortOk, Bool.and_eq_true] at hok
      obtain ⟨⟨⟨ok1, ok2⟩, ok3⟩, ok4⟩ := hok
      -- the items
      obtain ⟨its, T, o, n, rv, hT, ho, hcl, hd, hz⟩ : ∃ (its : List Value) (T : String) (o : Obj) (n : Nat), Vals vs its ∧ (T = "list" ∨ T = "tuple") ∧ s.heap.get? a = some o ∧ o.cls = .type T ∧ o.data = .seq its.toArray n ∧ vs.length ≤ sizeLine := by
        rcases hsq with h | h
        · obtain ⟨its, rv, pl, hz⟩ := I.list h
          obtain ⟨o, ho, hc, n, hd⟩ := pl.isList
          exact ⟨its, "list", o, n, rv, .inl rfl, ho, hc, hd, hz⟩
        · obtain ⟨its, rv, pl, hz⟩ := I.tuple h
          obtain ⟨o, ho, hc, n, hd⟩ := pl
          exact ⟨its, "tuple", o, n, rv, .inr rfl, ho, hc, hd, hz⟩
      have hlen := hv'.length
      have hle : its.length ≤ sizeLine := by rw [← rv.length]; exact hz
      refine Calls.call_function_entry kind_sorted plain_sorted entry_sorted (args_sorted1 _) ?_
      unfold Builtin.«sorted»
      refine wpAny_bind (m := checkCount "sorted" 1 1 _) (wpAny_pure ?_)
      refine wpAny_bind (wpAny_collect_seq a hT ho hcl hd (fun h' hk => ?_) (by simpa using hle))
      have I1 : Inv X pins σ H { s with heap := h' } := I.kept (t' := s.toks) hk
      have I2 : Inv X pins σ H { s with heap := h'.push (seqObj "list" its.toArray 0) } := I1.kept (t' := s.toks) fun b u e => Heap.get?_push_of_some _ e
      refine wpAny_bind (wpAny_newList ?_ hle)
      have hoL : (h'.push (seqObj "list" its.toArray 0)).get? h'.objs.size = some (seqObj "list" its.toArray 0) := Heap.get?_push_size _ rfl
      have ee := sort_each rv hlen
      have er : PySem.W.EachIs (fun u (p : V × D) => ∃ as, Reads (PySem.W.sortingHeap (h'.push (seqObj "list" its.toArray 0)) h'.objs.size its) u (toPy p.2) as) its (vs.zip ds) := by
        refine (PySem.W.each_mem ee).mono fun u p ⟨h1, h2⟩ => ?_
        obtain ⟨f1, h3, _⟩ := VAll.zip_mem hv' hf p h2
        obtain ⟨as, h4⟩ := Dp.reads I1 _ _ _ (Val.dp _ h3 (plain_mem ok1 (List.of_mem_zip h2).2)) h1
        exact ⟨as, PyProof.Rows.Reads.keeps (fun b o e => PySem.W.sortingHeap_old (Nat.ne_of_lt (Heap.lt_size e)) (Heap.get?_push_of_some _ e)) h4⟩
      have hsnd : (vs.zip ds).map (·.2) = ds := List.map_snd_zip (by omega)
      have hmap : (vs.zip ds).map (fun p => toPy p.2) = ds.map toPy := by
        have q := congrArg (List.map toPy) hsnd
        rw [List.map_map] at q
        exact q
      have hal : PySem.W.AllAlike ((vs.zip ds).map fun p => toPy p.2) := by
        rw [hmap]
        intro x hx y hy
        obtain ⟨dx, mx, rfl⟩ := List.mem_map.mp hx
        obtain ⟨dy, my, rfl⟩ := List.mem_map.mp hy
        exact List.all_eq_true.mp (List.all_eq_true.mp ok3 dx mx) dy my
      have hk : PySem.W.Sortable ((vs.zip ds).map fun p => toPy p.2) := by
        rw [hmap]
        simp only [sorty, Bool.or_eq_true, List.all_eq_true] at ok2
        rcases ok2 with h | h
        · refine .inl fun x hx => ?_
          obtain ⟨dx, mx, rfl⟩ := List.mem_map.mp hx
          have := h dx mx
          split at this
          · rename_i z r e
            exact ⟨z, r, e⟩
          · cases this
        · refine .inr fun x hx => ?_
          obtain ⟨dx, mx, rfl⟩ := List.mem_map.mp hx
          have := h dx mx
          refine ⟨fun z => ?_, fun ys z => ?_⟩ <;> rw [z] at this <;> cases this
      have hb : ∀ p, p ∈ vs.zip ds → X.A.units + 2 + (toPy p.2).depth < cLine := fun p hp => by
        have := List.all_eq_true.mp ok4 p.2 (List.of_mem_zip hp).2
        have := of_decide_eq_true this
        omega
      have fin := PySem.W.sortVals_data false ee er hal
      have L1 : ((vs.zip ds).mergeSort (PySem.W.dataLe false fun p => toPy p.2)).map (·.2) = isort leS ds := by
        refine (List.map_mergeSort (r := PySem.W.dataLe false fun p => toPy p.2) (s := leS) (f := Prod.snd) (l := vs.zip ds) (fun a _ b _ => rfl)).trans ?_
        rw [show List.map Prod.snd (vs.zip ds) = ds from hsnd]
        exact isort_eq (fun a b c => (PySem.W.sortLe_total (PyProof.Rows.listOrd PyProof.Rows.itemOrd) false fun d => PySem.W.keyToks (toPy d)).trans a b c) (fun a b => by have := (PySem.W.sortLe_total (PyProof.Rows.listOrd PyProof.Rows.itemOrd) false fun d => PySem.W.keyToks (toPy d)).total a b; exact Bool.or_eq_true_iff.mpr this) ds
      have L2 := vals_each fin
      obtain ⟨g, hg1, hg2⟩ := VAll.of_zip (K := X.K) (mg := X.mg) (H := H) (fp := fp) (l := (vs.zip ds).mergeSort (PySem.W.dataLe false fun p => toPy p.2)) fun p hp => VAll.zip_mem hv' hf p ((List.mergeSort_perm _ _).mem_iff.mp hp)
      rw [L1] at hg1
      refine wpAny_bind (wpAny_holding (wpAny_call_entry slot_list_sort ⟨_, hoL, rfl⟩ entry_list_sort (PySem.W.list_sort_vals (κ := PySem.W.dataKind (PySem.W.sortingHeap (h'.push (seqObj "list" its.toArray 0)) h'.objs.size its) ((vs.zip ds).map fun p => toPy p.2)) hoL
        (PySem.W.SortsAt.data (s := { s with heap := PySem.W.sortingHeap (h'.push (seqObj "list" its.toArray 0)) h'.objs.size its }) (PySem.W.each_map (R := fun v d => ∃ as, Reads (PySem.W.sortingHeap (h'.push (seqObj "list" its.toArray 0)) h'.objs.size its) v d as) (fun (p : V × D) => toPy p.2) er) hal hk (PySem.W.bound_map hb)) hle ⟨.none, rfl, ?_⟩) (args_list_sort _)))
      obtain ⟨ep, he⟩ := sortedHeap_at (a := h'.objs.size) (vs := its) (out := (PySem.W.sortVals (PySem.W.dataKind (PySem.W.sortingHeap (h'.push (seqObj "list" its.toArray 0)) h'.objs.size its) ((vs.zip ds).map fun p => toPy p.2)) false its its).toArray) hoL
      refine wpAny_pure ⟨_, rfl, .ref h'.objs.size, _, I1.laid (t' := s.toks) (o := .lst (((vs.zip ds).mergeSort (PySem.W.dataLe false fun p => toPy p.2)).map (·.1))) (fun b o e => ?_) (Nat.le_refl _) ⟨?_, _, ep, L2, he⟩, rfl,
        q _ _ (h'.objs.size :: g) (Sm.new (I1.hok.fresh (Nat.le_refl _))) (val_lst upd_same (hg1.sm (Sm.new (I1.hok.fresh (Nat.le_refl _))))) (.one (I1.hok.fresh (Nat.le_refl _)) mut_new (fun b hb => .inl (hg2 b hb)) fun hi => VAll.imm _ hg1 hi)⟩
      · have hlt := Heap.lt_size e
        rw [sortedHeap_old (Nat.ne_of_lt hlt) (by rw [Heap.size_push]; exact Nat.lt_succ_of_lt hlt)]
        exact Heap.get?_push_of_some _ e
      · rw [List.length_map, (List.mergeSort_perm _ _).length_eq, List.length_zip]
        omega
    · cases e
  | [], e => simp [sortF] at e
  | _ :: _ :: _, e => simp [sortF] at e
end
end DL
set_option Elab.async false
set_option linter.all false
set_option maxRecDepth 100000
set_option maxHeartbeats 2000000
namespace DL
open PySem PySem.Spec PyProof.Rows L2
section
variable {prog : Program} {w : World} {A : Around} {E : Value → Shared → Prop} {s : Shared}
theorem fm_congr {α β : Type} {f : α → Option β} {g : α → β} : ∀ {l : List α}, (∀ a ∈ l, f a = some (g a)) → l.filterMap f = l.map g
  | [], _ => rfl
  | a :: l, h => by
    rw [List.filterMap_cons_some (h a List.mem_cons_self), fm_congr fun b hb => h b (List.mem_cons_of_mem _ hb)]
    rfl
theorem pick_rev (xs : Array Value) : ((List.range xs.size).filterMap fun (k : Nat) => xs[((xs.size : Int) - 1 + (k : Int) * (-1)).toNat]?).toArray = xs.toList.reverse.toArray := by
  congr 1
  refine List.ext_getElem? fun i => ?_
  have e : (List.range xs.size).filterMap (fun (k : Nat) => xs[((xs.size : Int) - 1 + (k : Int) * (-1)).toNat]?) = (List.range xs.size).map fun k => xs.toList.reverse.getD k .none := by
    refine fm_congr fun k hk => ?_
    rw [List.mem_range] at hk
    have : ((xs.size : Int) - 1 + (k : Int) * (-1)).toNat = xs.size - 1 - k := by omega
    rw [this]
    rw [List.getD_eq_getElem?_getD, List.getElem?_reverse (by simpa using hk), Array.getElem?_toList, Array.length_toList]
    rw [Array.getElem?_eq_getElem (by omega)]
    rfl
  rw [e, List.getElem?_map]
  by_cases c : i < xs.size
  · rw [List.getElem?_range c]
    simp only [Option.map_some, List.getD_eq_getElem?_getD]
    rw [List.getElem?_eq_getElem (by simpa using c)]
    rfl
  · rw [List.getElem?_eq_none (by simpa using c), List.getElem?_eq_none (by simpa using c)]
    rfl
theorem getItem_tuple_rev {t sl : Addr} {items : Array Value} {vl vu vs : Value} {Q : Value → Shared → Prop} (ht : IsTup s.heap t items) (hs : s.heap.IsSliceOf sl vl vu vs) (pl : IsPart vl none) (pu : IsPart vu none) (ps : IsPart vs (some (-1)))
    (h : Q (.ref s.heap.objs.size) { s with heap := s.heap.push { cls := .type "tuple", data := .seq items.toList.reverse.toArray } })
    (hsz : items.size ≤ sizeLine) : wpAny (model prog w) A (getItem (.ref t) (.ref sl)) Q E s := by
  have htake : sizeOk (.seq items.toList.reverse.toArray) := by
    show items.toList.reverse.toArray.size ≤ sizeLine
    rw [List.size_toArray, List.length_reverse, Array.length_toList]
    exact hsz
  obtain ⟨os, hos, hcs, hds⟩ := id hs
  have hTs : s.TypeIs (.ref sl) "slice" := ⟨os, hos, hcs⟩
  unfold getItem
  try with_reducible refine wpAny_holding ?_
  first | refine wpAny_bind (wpAny_pure ?_) | skip
  refine wpAny_bind (wpAny_sequenceKey ht.typeIs (by decide) ?_)
  refine wpAny_bind (wpAny_callSpecial?_slot (name := Str.ofString "__getitem__") ht.typeIs PyProof.Rows.slot_tuple_getitem
    (wpAny_call_entry PyProof.Rows.slot_tuple_getitem ht.typeIs entry_tuple_getitem ?_ (args_tuple_getitem _ _)))
  show wpAny _ _ (Builtin.Tuple.tupleItemsOf (.ref t) >>= _) _ _ s
  refine wpAny_bind (tupleItemsOf_ ht ?_)
  refine wpAny_bind (wpAny_typeOf hTs ?_)
  rw [if_pos (by decide)]
  have app : ∀ {Q : Int × Int × Nat → Shared → Prop} {E : Value → Shared → Prop} {A : Around}, Q ((items.size : Int) - 1, -1, items.size) s → wpAny (model prog w) A (Builtin.Slice.sliceApplied (.ref sl) (pure (items.size : Int))) Q E s := fun {Q E A} h => by
    unfold Builtin.Slice.sliceApplied Builtin.Slice.sliceFields
    refine wpAny_bind (wpAny_bind (wpAny_field hos hds (x := vl) rfl (wpAny_bind (wpAny_field hos hds (x := vu) rfl (wpAny_bind (wpAny_field hos hds (x := vs) rfl (wpAny_pure ?_)))))))
    refine wpAny_bind (HT.slicePart_ ps ?_)
    show wpAny _ _ (if ((-1 : Int) == 0) = true then _ else _) _ _ s
    rw [if_neg (by decide)]
    refine wpAny_bind (HT.slicePart_ pl (wpAny_bind (HT.slicePart_ pu (wpAny_bind (wpAny_pure ?_)))))
    show wpAny _ _ (pure ((items.size : Int) - 1, (-1 : Int), Builtin.Slice.slicePlaces ((items.size : Int) - 1) (-1) (-1))) _ _ s
    have : Builtin.Slice.slicePlaces ((items.size : Int) - 1) (-1) (-1) = items.size := by
      unfold Builtin.Slice.slicePlaces
      rw [if_neg (by decide)]
      rw [show -(-1 : Int) = 1 from rfl, Int.ediv_one]
      split <;> omega
    rw [this]
    exact wpAny_pure h
  refine wpAny_bind (app ?_)
  have hno : ¬ ((((items.size : Int) - 1) == 0 && (-1 : Int) == 1 && items.size == items.size) = true) := by simp
  show wpAny _ _ (if (((items.size : Int) - 1) == 0 && (-1 : Int) == 1 && items.size == items.size) = true then _ else _) _ _ s
  rw [if_neg hno, pick_rev]
  first
    | exact wpAny_bind (m := Builtin.Tuple.tupleExact _) (wpAny_newObj_type (wpAny_pure ⟨_, rfl, wpAny_pure h⟩) htake)
    | exact wpAny_bind (m := Builtin.Tuple.tupleExact _) (wpAny_newObj_type (wpAny_bind (wpAny_pure (wpAny_pure ⟨_, rfl, wpAny_pure h⟩))) htake)
    | exact wpAny_bind (wpAny_bind (m := Builtin.Tuple.tupleExact _) (wpAny_newObj_type (wpAny_pure (wpAny_pure ⟨_, rfl, wpAny_pure h⟩)) htake))
    | exact wpAny_bind (wpAny_bind (m := Builtin.Tuple.tupleExact _) (wpAny_newObj_type (wpAny_pure ⟨_, rfl, wpAny_pure h⟩) htake))
end
/-! ### [::-1] -/
def revD : D → Option D
  | .lst xs => some (.lst xs.reverse)
  | .fz xs => some (.lst xs.reverse)
  | .tup xs => some (.tup xs.reverse)
  | .kt xs => some (.tup xs.reverse)
  | _ => none
def eRev (f : En → R D) (env : En) : R D := f env >>= fun d => R.of (revD d)
section
variable {X : Cx} {W : WX}
def tRevA (K : PySem.W.Frag) (te : TE) : TE := fun σ H Q => te σ H fun x H1 => ∃ a xs, x = .ref a ∧ ((SqL K H1 a xs ∧ ∀ p, H1 p = none → Q (.ref p) (upd H1 p (.lst xs.reverse))) ∨ (SqT K H1 a xs ∧ ∀ p, H1 p = none → Q (.ref p) (upd H1 p (.tup xs.reverse))))
theorem pe_revA {e : Expr} {te : TE} {k : Nat} {p1 p2 p3 pos : Pos} (he : PE X e te) : PE X (.Subscript e (.Slice none none (some (.UnaryOp .USub (.Constant (.int 1) k p1) p2)) p3) pos) (tRevA X.K te) := by
  refine ⟨fun pins s σ H Q I h => ?_⟩
  refine Subscript_ (thn (he.run pins s σ H _ I h) fun v s1 ⟨x, H1, I1, r1, q1⟩ => ?_)
  obtain ⟨a, xs, ex, q⟩ := q1
  subst ex
  cases r1
  have hst : PO X (some (.UnaryOp .USub (.Constant (.int 1) k p1) p2)) (tPart (tUn (rU fun i => .int (-i)) (tC (.int 1)))) := po_some (pe_un un_neg pe_int)
  refine wpAny_Slice (thn (po_none.run pins s1 σ H1 (fun o H2 => o = none ∧ H2 = H1) I1 ⟨rfl, rfl⟩) fun vl s2 ⟨l, H2, I2, pl, el, e2⟩ => ?_)
  subst el e2
  refine thn (po_none.run pins s2 σ H2 (fun o H3 => o = none ∧ H3 = H2) I2 ⟨rfl, rfl⟩) fun vu s3 ⟨u, H3, I3, pu, eu, e3⟩ => ?_
  subst eu e3
  refine thn (hst.run pins s3 σ H3 (fun o H4 => o = some (-1) ∧ H4 = H3) I3 ⟨1, rfl, -1, rfl, rfl, rfl⟩) fun vs s4 ⟨o, H4, I4, ps, eo, e4⟩ => ?_
  subst eo e4
  have I5 : Inv X pins σ H4 { s4 with heap := s4.heap.push { cls := .type "slice", data := .fields #[vl, vu, vs] } } := I4.kept (t' := s4.toks) fun b ob q => Heap.get?_push_of_some _ q
  show wpAny (model X.prog X.w) X.A (subscriptTail e (.Slice none none (some (.UnaryOp .USub (.Constant (.int 1) k p1) p2)) p3) (.ref a) (.ref s4.heap.objs.size)) (EP X pins σ Q) X.xe { s4 with heap := s4.heap.push { cls := .type "slice", data := .fields #[vl, vu, vs] } }
  rcases q with ⟨hx, q⟩ | ⟨hx, q⟩
  · obtain ⟨its, r, ht, hz⟩ := I5.list hx
    have hlen := r.length
    refine tail_any (ops := [.ref a, .ref s4.heap.objs.size]) ht.isList.typeIs (PySem.slot_list_getitem.lookup) ?_ (by with_unfolding_all rfl)
    refine wpAny_getItem_list_slice ht.isList (Heap.IsSliceOf.new _ vl vu vs) pl pu ps (by decide) ?_ (by rw [List.size_toArray]; omega)
    rw [PySem.W.krv_pick]
    refine ⟨.ref _, _, I5.laid (t' := s4.toks) (o := .lst xs.reverse) (fun b ob q => Heap.get?_push_of_some _ q) (Nat.le_refl _) ?_, rfl, q _ (I5.hok.fresh (Nat.le_refl _))⟩
    exact ⟨by rw [List.length_reverse]; exact hz, _, 0, r.reverse, Heap.get?_push_size _ rfl⟩
  · obtain ⟨its, r, ht, hz⟩ := I5.tuple hx
    have hlen := r.length
    refine tail_any (ops := [.ref a, .ref s4.heap.objs.size]) ht.typeIs (PyProof.Rows.slot_tuple_getitem.lookup) ?_ (by with_unfolding_all rfl)
    refine getItem_tuple_rev ht (Heap.IsSliceOf.new _ vl vu vs) pl pu ps ?_ (by rw [List.size_toArray]; omega)
    refine ⟨.ref _, _, I5.laid (t' := s4.toks) (o := .tup xs.reverse) (fun b ob q => Heap.get?_push_of_some _ q) (Nat.le_refl _) ?_, rfl, q _ (I5.hok.fresh (Nat.le_refl _))⟩
    exact ⟨by rw [List.length_reverse]; exact hz, _, r.reverse, IsTup.new _ _⟩
theorem VAll.rev {K : PySem.W.Frag} {mg : Str → Option Value} {H : Hp} {fp0 : List Addr} : ∀ {ds : List D} {vs : List V} {fp : List Addr}, VAll K mg H ds vs fp → (∀ b ∈ fp, b ∈ fp0) → ∃ g, VAll K mg H ds.reverse vs.reverse g ∧ ∀ b ∈ g, b ∈ fp0
  | [], vs, fp, h, hf => by simp only [VAll] at h; rw [h.1]; exact ⟨[], VAll.nil, nf⟩
  | d :: ds, vs, fp, h, hf => by
    simp only [VAll] at h
    obtain ⟨v, vr, f, g, ev, ef, h1, h2⟩ := h
    obtain ⟨g', h3, h4⟩ := VAll.rev h2 (fun b hb => hf b (by rw [ef]; exact List.mem_append_right _ hb))
    subst ev
    rw [List.reverse_cons, List.reverse_cons]
    exact ⟨g' ++ f, h3.append (VAll.one h1), fun b hb => (List.mem_append.mp hb).elim (h4 b) fun z => hf b (by rw [ef]; exact List.mem_append_left _ z)⟩
theorem dq_rev {e : Expr} {f : En → R D} {k : Nat} {p1 p2 p3 pos : Pos} (h : DE X W e f) : DQ X W (.Subscript e (.Slice none none (some (.UnaryOp .USub (.Constant (.int 1) k p1) p2)) p3) pos) (eRev f) :=
  pe_weak (pe_revA h) fun σ H Q ⟨S, env, P, q⟩ => by
    refine stE P q fun d v H1 fp e1 hv hp q => ?_
    obtain ⟨r, er, q⟩ := Out.of q
    have list : ∀ ds a vs f, v = .ref a → SqL X.K H1 a vs → VAll X.K X.mg H1 ds vs f → (∀ b ∈ f, b ∈ fp) → r = .lst ds.reverse → ∃ a xs, v = .ref a ∧ ((SqL X.K H1 a xs ∧ ∀ p, H1 p = none → Q (.ref p) (upd H1 p (.lst xs.reverse))) ∨ (SqT X.K H1 a xs ∧ ∀ p, H1 p = none → Q (.ref p) (upd H1 p (.tup xs.reverse)))) := fun ds a vs f ev hs hd hf er => by
      subst er
      obtain ⟨g, h3, h4⟩ := VAll.rev (fp0 := fp) hd hf
      exact ⟨a, vs, ev, .inl ⟨hs, fun p hp' => q _ _ (p :: g) (e1.trans (Sm.new hp')) (val_lst upd_same (h3.sm (Sm.new hp'))) (.one (e1.back hp') mut_new (fun b hb => hp b (h4 b hb)) fun hi => VAll.imm _ h3 hi)⟩⟩
    have tup : ∀ ds a vs f, v = .ref a → SqT X.K H1 a vs → VAll X.K X.mg H1 ds vs f → (∀ b ∈ f, b ∈ fp) → r = .tup ds.reverse → ∃ a xs, v = .ref a ∧ ((SqL X.K H1 a xs ∧ ∀ p, H1 p = none → Q (.ref p) (upd H1 p (.lst xs.reverse))) ∨ (SqT X.K H1 a xs ∧ ∀ p, H1 p = none → Q (.ref p) (upd H1 p (.tup xs.reverse)))) := fun ds a vs f ev hs hd hf er => by
      subst er
      obtain ⟨g, h3, h4⟩ := VAll.rev (fp0 := fp) hd hf
      exact ⟨a, vs, ev, .inr ⟨hs, fun p hp' => q _ _ g (e1.trans (Sm.new hp')) (val_tup upd_same (h3.sm (Sm.new hp'))) (.old (fun b hb => hp b (h4 b hb)) fun hi => VAll.imm _ h3 hi)⟩⟩
    cases d <;> simp only [revD, reduceCtorEq, Option.some.injEq] at er <;> simp only [Val] at hv
    · obtain ⟨a, vs, ev, h1, h2⟩ := hv
      exact tup _ a vs fp ev (.inl (.inl h1)) h2 (fun _ z => z) er.symm
    · obtain ⟨a, vs, f, ev, ef, h1, h2⟩ := hv
      exact list _ a vs f ev (.inl (.inl h1)) h2 (fun b hb => by rw [ef]; exact List.mem_cons_of_mem _ hb) er.symm
    · obtain ⟨a, vs, ev, h1, h2⟩ := hv
      exact list _ a vs fp ev h1.sq h2 (fun _ z => z) er.symm
    · obtain ⟨a, vs, ev, h1, h2⟩ := hv
      exact tup _ a vs fp ev h1.sq h2 (fun _ z => z) er.symm
/-! ### list(range(..)) -/
def okRg (i j : Int) : Bool := decide (-(2 ^ 62) ≤ i) && decide (i < 2 ^ 62) && decide (-(2 ^ 62) ≤ j) && decide (j < 2 ^ 62) && decide ((j - i).toNat ≤ 2 ^ 24)
def lrgF1 : List D → Option D
  | [.int j] => if okRg 0 j = true then some (.lst (rngD 0 j.toNat 1)) else none
  | _ => none
def lrgF2 : List D → Option D
  | [.int i, .int j] => if okRg i j = true then some (.lst (rngD i (j - i).toNat 1)) else none
  | _ => none
theorem okRg_iff {i j : Int} (h : okRg i j = true) : RgOk i j := by
  simp only [okRg, Bool.and_eq_true, decide_eq_true_eq] at h
  exact ⟨h.1.1.1.1, h.1.1.1.2, h.1.1.2, h.1.2, h.2⟩
theorem vall_rg {K : PySem.W.Frag} {mg : Str → Option Value} {H : Hp} {i j : Int} : VAll K mg H (rngD i (j - i).toNat 1) (rgV i j) [] := by
  unfold rngD rgV
  generalize (List.range (j - i).toNat) = l
  induction l with
  | nil => exact VAll.nil
  | cons k l ih =>
    simp only [List.map_cons]
    exact VAll.cons (f := []) (g := []) (by rw [Int.mul_one]; exact val_int) ih
theorem df_listRg1 {a : Expr} {p p2 pos pos2 : Pos} {f : En → R D} (h : DE X W a f) (hm : X.mg "list" = none) (hm2 : X.mg "range" = none) (hc : X.calm = true := by rfl) (hg : Gl X "list" := by rfl) (hg2 : Gl X "range" := by rfl)
    (na : starEach [Expr.Call (.Name "range" p2) [a] [] pos2] X.env = (false, eval (Expr.Call (.Name "range" p2) [a] [] pos2) X.env) :: starEach [] X.env := by rfl) (na2 : starEach [a] X.env = (false, eval a X.env) :: starEach [] X.env := by rfl) :
    DF X W (.Call (.Name "list" p) [.Call (.Name "range" p2) [a] [] pos2] [] pos) (eCall lrgF1 (eCons f eNil)) :=
  pe_weak (pe_listRg hc hg hm (prg_1 hg2 hm2 h na2) na) fun σ H Q ⟨S, env, P, q⟩ => by
    have q := q.bind
    refine stE P q fun d v H1 fp e1 hv hp q => ?_
    obtain ⟨r, er, q⟩ := Out.of q
    unfold lrgF1 at er
    split at er
    · rename_i j heq
      simp only [List.cons.injEq, and_true] at heq
      subst heq
      split at er
      · rename_i hz
        cases er
        simp only [Val] at hv
        exact ⟨j, hv.1, okRg_iff hz, fun p hp' => q _ _ [p] (e1.trans (Sm.new hp')) (val_lst upd_same (by have := vall_rg (K := X.K) (mg := X.mg) (H := upd H1 p (.lst (rgV 0 j))) (i := 0) (j := j); rw [Int.sub_zero] at this; exact this)) (by simp) (by simp [e1.back hp', mut_new])⟩
      · cases er
    · cases er
theorem df_listRg2 {a b : Expr} {p p2 pos pos2 : Pos} {f g : En → R D} (h : DE X W a f) (h2 : DE X W b g) (hm : X.mg "list" = none) (hm2 : X.mg "range" = none) (hc : X.calm = true := by rfl) (hg : Gl X "list" := by rfl) (hg2 : Gl X "range" := by rfl)
    (na : starEach [Expr.Call (.Name "range" p2) [a, b] [] pos2] X.env = (false, eval (Expr.Call (.Name "range" p2) [a, b] [] pos2) X.env) :: starEach [] X.env := by rfl) (na2 : starEach [a, b] X.env = (false, eval a X.env) :: starEach [b] X.env := by rfl)
    (na3 : starEach [b] X.env = (false, eval b X.env) :: starEach [] X.env := by rfl) (hp : (backTo pos2 (starEach [b] X.env)).any (·.1) = false := by rfl) :
    DF X W (.Call (.Name "list" p) [.Call (.Name "range" p2) [a, b] [] pos2] [] pos) (eCall lrgF2 (eCons f (eCons g eNil))) :=
  pe_weak (pe_listRg hc hg hm (prg_2 hg2 hm2 h h2 na2 na3 hp) na) fun σ H Q ⟨S, env, P, q⟩ => by
    have q := q.bind
    refine stE P q fun d v H1 fp e1 hv hp q => ?_
    have q := q.bind
    refine stE (P.sm e1) q fun d2 v2 H2 fp2 e2 hv2 hp2 q => ?_
    obtain ⟨r, er, q⟩ := Out.of q
    unfold lrgF2 at er
    split at er
    · rename_i i j heq
      simp only [List.cons.injEq, and_true] at heq
      obtain ⟨rfl, rfl⟩ := heq
      split at er
      · rename_i hz
        cases er
        simp only [Val] at hv hv2
        exact ⟨i, j, hv.1, hv2.1, okRg_iff hz, fun p hp' => q _ _ [p] ((e1.trans e2).trans (Sm.new hp')) (val_lst upd_same vall_rg) (by simp) (by simp [(e1.trans e2).back hp', mut_new])⟩
      · cases er
    · cases er
end
end DL
set_option Elab.async false
set_option linter.all false
set_option maxRecDepth 100000
set_option maxHeartbeats 2000000
namespace DL
open PySem PySem.Spec PyProof.Rows L2
theorem bt_int : bootBuiltins "int" = some (.type "int") := by decide +kernel
theorem bt_bool : bootBuiltins "bool" = some (.type "bool") := by decide +kernel
theorem bt_str : bootBuiltins "str" = some (.type "str") := by decide +kernel
theorem bt_list : bootBuiltins "list" = some (.type "list") := by decide +kernel
theorem bt_tuple : bootBuiltins "tuple" = some (.type "tuple") := by decide +kernel
theorem bt_dict : bootBuiltins "dict" = some (.type "dict") := by decide +kernel
theorem bt_len : bootBuiltins "len" = some (.builtin "len") := by decide +kernel
theorem bt_abs : bootBuiltins "abs" = some (.builtin "abs") := by decide +kernel
theorem bt_min : bootBuiltins "min" = some (.builtin "min") := by decide +kernel
theorem bt_max : bootBuiltins "max" = some (.builtin "max") := by decide +kernel
theorem bt_sum : bootBuiltins "sum" = some (.builtin "sum") := by decide +kernel
theorem bt_any : bootBuiltins "any" = some (.builtin "any") := by decide +kernel
theorem bt_all : bootBuiltins "all" = some (.builtin "all") := by decide +kernel
theorem bt_sorted : bootBuiltins "sorted" = some (.builtin "sorted") := by decide +kernel
theorem bt_isinstance : bootBuiltins "isinstance" = some (.builtin "isinstance") := by decide +kernel
/-- room for == and the like -/
theorem hu64 {k : Nat} {A : Around} (r : Room k A) : A.units + 64 < cLine := by have := r.un; omega
theorem hu65 {k : Nat} {A : Around} (r : Room k A) : A.units + 65 < cLine := by have := r.un; omega
theorem hu1 {k : Nat} {A : Around} (r : Room k A) : A.units + 1 < cLine := by have := r.un; omega
theorem hu0 {k : Nat} {A : Around} (r : Room k A) : A.units < cLine := by have := r.un; omega
section
variable {P : Program} {w : World} {K : PySem.W.Frag} {mg : Str → Option Value} {base h : Heap}
/-- a def as the top has written it -/
def RawD (K : PySem.W.Frag) (mg : Str → Option Value) (x : Str) (st : Stmt) (ps : List Str) : Prop := ∃ f fd, mg x = some (.ref f) ∧ Fun K x x st f fd ∧ Binds K fd ps [] ∧ ∀ (s : Shared) (us : List Value), us.length = ps.length → BindsTo s fd ⟨us, []⟩ (ps.zip us)
theorem rawD_mk {x : Str} {st : Stmt} {ps : List Str} {f : Addr} {oc : Value} {od an : Option Addr} {osl : Array (Option Value)} {kV doc pm cdv ct : Value} (X : K.In h) (G : h.Ns mainGlobals mg) (a : PySem.W.nsIn K mainGlobals x = some (some (.ref f)))
    (l : K.lookup f = some ⟨oc, od, .func (PySem.W.fnOf x x (defArgs st) (defBody st) (defScope st) .none kV doc pm an cdv ct), osl⟩) (c : PySem.W.codeIn K cdv x = true) (k : PySem.W.keepIn K (.ref f) = true)
    (b : ∀ (kV doc pm : Value) (an : Option Addr) (cdv ct : Value) (us : List Value), us.length = ps.length → bindArgs (PySem.W.fnOf x x (defArgs st) (defBody st) (defScope st) .none kV doc pm an cdv ct) ⟨us, []⟩ = pure (ps.zip us)) : RawD K mg x st ps :=
  ⟨f, _, PySem.W.mg_of X G a, fun_mk l c k, (fun_mk l c k).binds b, fun s us hu => .of_eq (b _ _ _ _ _ _ us hu)⟩
/-- a def that computes F -/
def DefD (P : Program) (w : World) (K : PySem.W.Frag) (mg : Str → Option Value) (base : Heap) (k n : Nat) (x : Str) (F : List D → R D) : Prop :=
  ∃ f fd ps, mg x = some (.ref f) ∧ PySem.W.keepIn K (.ref f) = true ∧ Binds K fd ps [] ∧ FnOk P w K mg base (L2.CX P w) k f fd ps (spD K mg n F)
theorem okDD {x : Str} {st : Stmt} {N ps : List Str} {k n : Nat} {G : En → Fl} (r : RawD K mg x st ps) (S : FnScope N ps (defScope st)) (hn : ps.length = n)
    (body : ∀ (f : Addr) (cdv : Value) (A : Around) (outer : List Env) (s : Shared) (H : Hp) (E : XK), Room k (A.deeper (envOfC x (defScope st) s.heap.objs.size f cdv)) → Takes (cxOf (L2.CX P w) P w K mg base N x (defScope st) f cdv A outer s H E) (fun cls d _ H => E cls d H) →
      DSs (cxOf (L2.CX P w) P w K mg base N x (defScope st) f cdv A outer s H E) (fun cls d _ H => E cls d H) (defBody st) G) :
    DefD P w K mg base (k + 1) n x (runD n N.length G) := by
  obtain ⟨f, fd, h1, h2, h3, _⟩ := r
  exact ⟨f, fd, ps, h1, h2.kp, h3, okD h2 S hn (body f)⟩
/-- the law's own def -/
def LawD (P : Program) (w : World) (K : PySem.W.Frag) (mg : Str → Option Value) (k : Nat) (F : List D → R D) : Prop :=
  ∃ f fd, mg "law" = some (.ref f) ∧ (∀ (s : Shared) (u : Value), BindsTo s fd ⟨[u], []⟩ [("script", u)]) ∧ ∀ base, FnOk P w K mg base (L2.CX P w) k f fd ["script"] (spD K mg 1 F)
theorem okLL {st : Stmt} {N : List Str} {k : Nat} {G : En → Fl} (r : RawD K mg "law" st ["script"]) (S : FnScope N ["script"] (defScope st))
    (body : ∀ (base : Heap) (f : Addr) (cdv : Value) (A : Around) (outer : List Env) (s : Shared) (H : Hp) (E : XK), Room k (A.deeper (envOfC "law" (defScope st) s.heap.objs.size f cdv)) → Takes (cxOf (L2.CX P w) P w K mg base N "law" (defScope st) f cdv A outer s H E) (fun cls d _ H => E cls d H) →
      DSs (cxOf (L2.CX P w) P w K mg base N "law" (defScope st) f cdv A outer s H E) (fun cls d _ H => E cls d H) (defBody st) G) :
    LawD P w K mg (k + 1) (runD 1 N.length G) := by
  obtain ⟨f, fd, h1, h2, h3, h4⟩ := r
  exact ⟨f, fd, h1, fun s u => h4 s [u] rfl, fun base => okD h2 S rfl (body base f)⟩
end
section
variable {X : Cx} {W : WX} {k n j : Nat} {F : List D → R D} {x : Str} {p pos : Pos} {e : Expr} {es : List Expr} {g : En → R (List D)}
theorem df_call (G : DefD X.prog X.w X.K X.mg X.base k n x F) (hr : Room j X.A) (hk : k ≤ j) (tk : Takes X W) (ha : DA X W (e :: es) g) (hg : Gl X x := by rfl) (hdb : (x == ("__debug__" : Str)) = false := by decide)
    (he : starEach (e :: es) X.env = (false, eval e X.env) :: starEach es X.env := by rfl) (hpl : (backTo pos (starEach es X.env)).any (·.1) = false := by rfl) : DF X W (.Call (.Name x p) (e :: es) [] pos) (eCallF n F g) := by
  obtain ⟨f, fd, ps, h1, h2, h3, h4⟩ := G
  exact df_callF h4 (hr.mono hk) h1 h2 h3 tk ha hg hdb he hpl
/-- a number of the top -/
theorem de_globI {i : Int} (hm : ∃ t, X.mg x = some (.int i t)) (hg : Gl X x := by rfl) (hd : (x == ("__debug__" : Str)) = false := by decide) : DE X W (.Name x p) (eC (.int i)) := by
  obtain ⟨t, hm⟩ := hm
  exact de_glob hm (v := .int i) ⟨t, rfl⟩ (fun H => val_int) hg hd
/-- a text of the top -/
theorem de_globS {z : Str} (hm : ∃ t, X.mg x = some (.str z t)) (hg : Gl X x := by rfl) (hd : (x == ("__debug__" : Str)) = false := by decide) : DE X W (.Name x p) (eC (.str z)) := by
  obtain ⟨t, hm⟩ := hm
  exact de_glob hm (v := .str z) ⟨t, rfl⟩ (fun H => val_str) hg hd
end
/-! ### exceptions -/
/-- an own class of exceptions, a kind of ValueError -/
def ExcD (K : PySem.W.Frag) (mg : Str → Option Value) (x : Str) : Prop := ∃ C, mg x = some (.ref C) ∧ PySem.W.excIn K C [.type "ValueError", .type "Exception", .type "BaseException", .type "object"] "ValueError.__new__" = true ∧ PySem.W.keepIn K (.ref C) = true ∧
  PySem.W.subIn K (.ref C) (.type "BaseException") = some true ∧ PySem.W.typeIn K (.ref C) = some (.type "type")
section
variable {X : Cx} {W : WX} {x m : Str} {p pos p2 pos2 : Pos} {j : Nat}
theorem ds_raiseD (E : ExcD X.K X.mg x) (tk : Takes X W) (hc : X.calm = true := by rfl) (hg : Gl X x := by rfl) (hdb : (x == ("__debug__" : Str)) = false := by decide) : DS X W (.Raise (some (.Call (.Name x p) [.Constant (.str m) j p2] [] pos)) none pos2) (sRaise x) := by
  obtain ⟨C, h1, h2, h3, h4, h5⟩ := E
  exact ds_raise tk h2 h1 h3 (raises_own h4 h5) hc hg hdb
/-- whether an exception of the class x is one that «except y» takes -/
def CatD (K : PySem.W.Frag) (mg : Str → Option Value) (y x : Str) (b : Bool) : Prop := ∀ C C', mg y = some (.ref C) → mg x = some (.ref C') → PySem.W.exmOne K (.ref C') (.ref C) = some b
theorem ds_tryD {y : Str} {body suite : List Stmt} {b₀ : Stmt} {np pos' : Pos} {F G : En → Fl} {cat : List (Str × Bool)} (hy : ∃ C, X.mg y = some (.ref C)) (tk : Takes X W) (hcat : ∀ p ∈ cat, CatD X.K X.mg y p.1 p.2)
    (hb : ∀ (W : WX) (pn : List (Addr × Obj)) (xe : Value → Shared → Prop), Takes (X.tr pn xe) W → PassesOwn (model X.prog X.w) X.A X.env xe → DSs (X.tr pn xe) W body F)
    (hsu : ∀ (a : Addr) (oe : Obj) (cls : Value) (d : Option Addr) (pn : List (Addr × Obj)), DSs (X.suite a ((a, oe) :: pn)) W (b₀ :: suite) G)
    (hs : X.stack = X.env :: X.outer := by rfl) (hf : X.env.frame = some X.env.locals := by rfl) (hg : Gl X y := by rfl) (hdb : (y == ("__debug__" : Str)) = false := by decide) :
    DS X W (.Try body [.ExceptHandler (some (.Name y np)) none (b₀ :: suite) pos'] [] [] pos) (sTry cat F G) := by
  obtain ⟨C, hC⟩ := hy
  exact ds_try hs hf ⟨hg, hdb, .inl hC⟩ tk (fun p hp C' h' => hcat p hp C C' hC h') hb hsu
end
/-! ### the law -/
def spL (K : PySem.W.Frag) : Sp := fun vs H Q _ => ∃ (a : Addr) (ns : List Int), vs = [.ref a] ∧ ns.length ≤ 63 ∧ Only H ∧ SqL K H a (ns.map V.int) ∧ ∀ H', Q (.bl true) H'
theorem vall_ints {K : PySem.W.Frag} {mg : Str → Option Value} {H : Hp} : ∀ {ns : List Int}, VAll K mg H (ns.map D.int) (ns.map V.int) []
  | [] => VAll.nil
  | n :: ns => VAll.cons (f := []) (g := []) val_int vall_ints
section
variable {P : Program} {w : World} {K : PySem.W.Frag} {mg : Str → Option Value} {base : Heap}
theorem law_ok {k : Nat} {f : Addr} {fd : FuncData} {ps : List Str} {F : List D → R D} (G : FnOk P w K mg base (L2.CX P w) k f fd ps (spD K mg 1 F)) (hF : ∀ ns : List Int, ns.length ≤ 63 → F [.fz (ns.map .int)] = .ok (.bl true)) : FnOk P w K mg base (L2.CX P w) k f fd ps (spL K) :=
  G.imp fun vs H Q E ⟨a, ns, e, hl, hO, hS, q⟩ => by
    subst e
    have fz : FzL K H a (ns.map V.int) := by
      rcases hS with (h | ⟨o, h⟩) | h
      · rcases hO a with z | ⟨o, xs, z⟩ <;> rw [z] at h <;> cases h
      · exact .inl ⟨o, h⟩
      · exact .inr h
    have hv : Val K mg H (.fz (ns.map .int)) (.ref a) [] := by
      simp only [Val]
      exact ⟨a, _, rfl, fz, vall_ints⟩
    refine ⟨rfl, [.fz (ns.map .int)], [], VAll.one hv, ?_⟩
    rw [hF ns hl]
    intro v H' fp e hv _ _
    simp only [Val] at hv
    rw [hv.1]
    exact q H'
end
theorem exc_there {K : PySem.W.Frag} {mg : Str → Option Value} {x : Str} (E : ExcD K mg x) : ∃ C, mg x = some (.ref C) := let ⟨C, h, _⟩ := E; ⟨C, h⟩
theorem exm_sub {K : PySem.W.Frag} {S T : Addr} {b : Bool} (h1 : PySem.W.subIn K (.ref S) (.type "BaseException") = some true) (h2 : PySem.W.isClsIn K S = true) (h3 : PySem.W.typeIn K (.ref S) = some (.type "type")) (h4 : PySem.W.subIn K (.ref T) (.ref S) = some b) :
    PySem.W.exmOne K (.ref T) (.ref S) = some b := by
  have e1 : (PySem.W.subIn K (.ref S) (.type "BaseException") == some true) = true := by rw [h1] <;> rfl
  have e2 : ((PySem.W.clsIn K S).isSome && PySem.W.typeIn K (.ref S) == some (.type "type")) = true := by
    have h2' : (PySem.W.clsIn K S).isSome = true := h2
    rw [h2', h3] <;> rfl
  show (if (PySem.W.subIn K (.ref S) (.type "BaseException") == some true) = true then (if ((PySem.W.clsIn K S).isSome && PySem.W.typeIn K (.ref S) == some (.type "type")) = true then PySem.W.subIn K (.ref T) (.ref S) else none) else none) = some b
  rw [if_pos e1, if_pos e2]
  exact h4
theorem catD_mk {K : PySem.W.Frag} {mg : Str → Option Value} {y x : Str} {b : Bool} {C C' : Addr} (h1 : mg y = some (.ref C)) (h2 : mg x = some (.ref C')) (h : PySem.W.exmOne K (.ref C') (.ref C) = some b) : CatD K mg y x b := fun D D' g1 g2 => by
  rw [h1] at g1; rw [h2] at g2
  cases g1; cases g2
  exact h
theorem law_end {P : Program} {w : World} {K : PySem.W.Frag} {mg : Str → Option Value} {k : Nat} {fa : Addr} {F : List D → R D} (hmg : mg "law" = some (.ref fa)) (G : LawD P w K mg k F) (hF : ∀ ns : List Int, ns.length ≤ 63 → F [.fz (ns.map .int)] = .ok (.bl true)) :
    ∃ fd : FuncData, (∀ (s : Shared) (u : Value), BindsTo s fd ⟨[u], []⟩ [("script", u)]) ∧ ∀ base : Heap, K.In base → base.Ns mainGlobals mg → FnOk P w K mg base (L2.CX P w) k fa fd ["script"] (spL K) := by
  obtain ⟨f, fd, h1, h2, h3⟩ := G
  rw [hmg] at h1
  cases h1
  exact ⟨fd, h2, fun base _ _ => law_ok (h3 base) hF⟩
theorem cx_none {P : Program} {w : World} (H : Hp) (s : Shared) (e : Value) (s' : Shared) (h : L2.CX P w [] H s (fun _ _ _ => False) e s') : False := by
  obtain ⟨_, _, _, _, _, _, _, _, _, _, _, _, z⟩ := h
  exact z.elim
theorem walk_D {l : PySem.W.OpenLaw} {k : Nat} {q : Program} {loose : List Str} {XP : (Str → Option Value) → Heap → Prop} {YP : World → Heap → Prop} {d : DefRec} {K : Params → PySem.W.Frag} (hn : l.most = some 63) (hdf : d.params.defaults = []) (hr : Room k callerA)
    (hY : ∀ (w : World) (h : Heap), YP w h → (K w.params).In h)
    (F : ∀ (w : World) (mg : Str → Option Value) (fa : Addr) (h : Heap), (K w.params).In h → h.Ns mainGlobals mg → mg d.name = some (.ref fa) →
      ∃ fd : FuncData, (∀ (s : Shared) (u : Value), BindsTo s fd ⟨[u], []⟩ [("script", u)]) ∧ ∀ base : Heap, (K w.params).In base → base.Ns mainGlobals mg → FnOk l.prog w (K w.params) mg base (L2.CX l.prog w) k fa fd ["script"] (spL (K w.params))) :
    PySem.W.WalkO q loose XP YP l.row.toRowW d [] (fun f vs => PySem.call f vs) :=
  L2.walk_of (n := 63) (k := k) (x := "script") (CX := fun w => L2.CX l.prog w) (sp := fun w => spL (K w.params)) hn (by decide) hdf hr hY F (fun _ _ a ns hl hO hS => ⟨a, ns, rfl, hl, hO, hS, fun _ => rfl⟩) fun _ H s e s' h => cx_none H s e s' h
end DL
set_option Elab.async false
set_option linter.all false
set_option maxRecDepth 100000
set_option maxHeartbeats 2000000
namespace DL
open PySem PySem.Spec PyProof.Rows L2
/-! ### the steps as equations -/
@[simp] theorem onE_ok {a : Type} (x : a) (env : En) (k : a → Fl) : onE (.ok x) env k = k x := nr rfl
@[simp] theorem onE_ex {a : Type} (c : Str) (env : En) (k : a → Fl) : onE (.ex c : R a) env k = .ex c env := nr rfl
section
variable {env e : En} {F G : En → Fl} {d : D} {c : Str}
theorem sSeq_nx (h : F env = .nx e) : sSeq F G env = G e := by unfold sSeq; rw [h]
theorem sSeq_rt (h : F env = .rt d) : sSeq F G env = .rt d := by unfold sSeq; rw [h]
theorem sSeq_ex (h : F env = .ex c e) : sSeq F G env = .ex c e := by unfold sSeq; rw [h]
theorem sIf_t {t : En → R Bool} (h : t env = .ok true) : sIf t F G env = F env := by unfold sIf; rw [h]; rfl
theorem sIf_f {t : En → R Bool} (h : t env = .ok false) : sIf t F G env = G env := by unfold sIf; rw [h]; rfl
theorem runD_rt {n m : Nat} {ds : List D} (hn : ds.length = n) (h : G (ds.map .sh ++ List.replicate (m - n) .un) = .rt d) : runD n m G ds = .ok d := by unfold runD; rw [if_pos hn, h]
theorem runD_nx {n m : Nat} {ds : List D} (hn : ds.length = n) (h : G (ds.map .sh ++ List.replicate (m - n) .un) = .nx e) : runD n m G ds = .ok .non := by unfold runD; rw [if_pos hn, h]
theorem runD_ex {n m : Nat} {ds : List D} (hn : ds.length = n) (h : G (ds.map .sh ++ List.replicate (m - n) .un) = .ex c e) : runD n m G ds = .ex c := by unfold runD; rw [if_pos hn, h]
end
/-! ### loops -/
theorem loop_nx {T : Tg} {body : En → Fl} {β : Type} (S : β → En → Prop) (step : β → D → β) {P : D → Prop} (h : ∀ d b env, P d → S b env → ∃ e e', put T d env = some e ∧ (body e = .nx e' ∨ body e = .ct e') ∧ S (step b d) e') :
    ∀ {ds : List D} {b : β} {env : En}, (∀ d ∈ ds, P d) → S b env → ∃ e', loop T body ds env = .nx e' ∧ S (ds.foldl step b) e'
  | [], b, env, _, hs => ⟨env, rfl, hs⟩
  | d :: ds, b, env, hp, hs => by
    obtain ⟨e, e', h1, h2, h3⟩ := h d b env (hp d List.mem_cons_self) hs
    obtain ⟨e2, h4, h5⟩ := loop_nx S step h (fun x hx => hp x (List.mem_cons_of_mem _ hx)) h3
    refine ⟨e2, ?_, h5⟩
    unfold loop
    rw [h1]
    simp only
    rcases h2 with h2 | h2 <;> rw [h2] <;> exact h4
/-- a loop that may hand back a value -/
theorem loop_find {T : Tg} {body : En → Fl} (S : En → Prop) (ret : D → Option D) {P : D → Prop} (h : ∀ d env, P d → S env → ∃ e, put T d env = some e ∧ match ret d with
      | some v => body e = .rt v
      | none => ∃ e', (body e = .nx e' ∨ body e = .ct e') ∧ S e') :
    ∀ {ds : List D} {env : En}, (∀ d ∈ ds, P d) → S env → match ds.findSome? ret with
      | some v => loop T body ds env = .rt v
      | none => ∃ e', loop T body ds env = .nx e' ∧ S e'
  | [], env, _, hs => ⟨env, rfl, hs⟩
  | d :: ds, env, hp, hs => by
    obtain ⟨e, h1, h2⟩ := h d env (hp d List.mem_cons_self) hs
    simp only [List.findSome?_cons]
    cases q : ret d with
    | some v =>
      rw [q] at h2
      show loop T body (d :: ds) env = .rt v
      unfold loop
      rw [h1]
      simp only at h2 ⊢
      rw [h2]
    | none =>
      rw [q] at h2
      obtain ⟨e', h2, h3⟩ := h2
      have ih := loop_find S ret h (fun x hx => hp x (List.mem_cons_of_mem _ hx)) h3
      have e1 : loop T body (d :: ds) env = loop T body ds e' := by
        rw [loop, h1]
        simp only
        rcases h2 with h2 | h2 <;> rw [h2]
      rw [e1]
      exact ih
/-! ### comprehensions -/
theorem cmp_map {T : Tg} {c : En → R Bool} {f : En → R D} {env : En} {β : Type} (P : β → Bool) (F : β → D) (I : β → D) : ∀ {bs : List β}, (∀ b ∈ bs, ∃ e, put T (I b) env = some e ∧ c e = .ok (P b) ∧ (P b = true → f e = .ok (F b))) →
    cmp T c f env (bs.map I) = some ((bs.filter P).map F)
  | [], _ => rfl
  | b :: bs, h => by
    obtain ⟨e, h1, h2, h3⟩ := h b List.mem_cons_self
    have ih := cmp_map P F I (bs := bs) fun x hx => h x (List.mem_cons_of_mem _ hx)
    simp only [List.map_cons, cmp, h1, Option.bind_some, h2, sure]
    cases q : P b with
    | true => simp [h3 q, sure, ih, List.filter_cons, q]
    | false => simp [ih, List.filter_cons, q]
theorem eComp_eq {vs : List Nat} {T : Tg} {fi : En → R (List D)} {c : En → R Bool} {f : En → R D} {env : En} {β : Type} {bs : List β} (P : β → Bool) (F : β → D) (I : β → D) (hi : fi env = .ok (bs.map I)) (hl : bs.length ≤ sizeLine)
    (h : ∀ b ∈ bs, ∃ e, put T (I b) (wipeE env vs) = some e ∧ c e = .ok (P b) ∧ (P b = true → f e = .ok (F b))) : eComp vs T fi c f env = .ok (.lst ((bs.filter P).map F)) := by
  unfold eComp
  rw [hi]
  simp only [R.bind_ok, List.length_map]
  rw [if_pos hl, cmp_map P F I h]
  rfl
theorem eComp_yes {vs : List Nat} {T : Tg} {fi : En → R (List D)} {f : En → R D} {env : En} {β : Type} {bs : List β} (F : β → D) (I : β → D) (hi : fi env = .ok (bs.map I)) (hl : bs.length ≤ sizeLine)
    (h : ∀ b ∈ bs, ∃ e, put T (I b) (wipeE env vs) = some e ∧ f e = .ok (F b)) : eComp vs T fi eYes f env = .ok (.lst (bs.map F)) := by
  have := eComp_eq (c := eYes) (f := f) (fun _ => true) F I hi hl fun b hb => by
    obtain ⟨e, h1, h2⟩ := h b hb
    exact ⟨e, h1, rfl, fun _ => h2⟩
  rw [this]
  congr 3
  exact List.filter_eq_self.mpr fun _ _ => rfl
/-! ### whole numbers -/
def tN (l : List Nat) : D := .tup (l.map fun (n : Nat) => .int (n : Int))
theorem sizeLine_val : sizeLine = 16777216 := sizeLine_eq
theorem toPyAll_map' (l : List D) : toPyAll l = l.map toPy := by
  induction l with
  | nil => rfl
  | cons d l ih => simp [toPyAll, ih]
theorem plainAll_all (l : List D) : plainAll l = l.all plain := by
  induction l with
  | nil => rfl
  | cons d l ih => simp [plainAll, ih]
theorem immAll_all (l : List D) : immAll l = l.all imm := by
  induction l with
  | nil => rfl
  | cons d l ih => simp [immAll, ih]
theorem canLayAll_all (l : List PyData) : PyData.canLayAll0 l = l.all PyData.canLay0 := by
  induction l with
  | nil => rfl
  | cons d l ih => simp [PyData.canLayAll0, ih]
@[simp] theorem imm_tN (l : List Nat) : imm (tN l) = true := by
  simp [tN, imm, immAll_all]
@[simp] theorem eqv_int (a b : Int) : eqv (.int a) (.int b) = (a == b) := by simp [eqv, toPy, PyData.eqv]
@[simp] theorem eqv_bl (a b : Bool) : eqv (.bl a) (.bl b) = (a == b) := by simp [eqv, toPy, PyData.eqv]
@[simp] theorem eqD_int (a b : Int) : eqD (.int a) (.int b) = some (.bl (a == b)) := by simp [eqD, fitE, flat]
@[simp] theorem neD_int (a b : Int) : neD (.int a) (.int b) = some (.bl (a != b)) := by simp [neD, fitE, flat, bne]
@[simp] theorem neD_bl (a b : Bool) : neD (.bl a) (.bl b) = some (.bl (a != b)) := by simp [neD, fitE, flat, bne]
@[simp] theorem eqD_bl (a b : Bool) : eqD (.bl a) (.bl b) = some (.bl (a == b)) := by simp [eqD, fitE, flat]
theorem depthAll_le {l : List PyData} {k : Nat} (h : ∀ d ∈ l, d.depth ≤ k) : PyData.depthAll l ≤ k := by
  induction l with
  | nil => simp [PyData.depthAll]
  | cons d l ih =>
    simp only [PyData.depthAll]
    have h1 := h d List.mem_cons_self
    have h2 := ih fun x hx => h x (List.mem_cons_of_mem _ hx)
    omega
@[simp] theorem okE_int (i : Int) : okE (.int i) = true := by simp [okE, plain, toPy, SeqAt.shaped, PyData.canLay0, PyData.depth]
theorem depth_int (i : Int) : (toPy (.int i)).depth = 0 := by simp [toPy, PyData.depth]
theorem okE_of {d : D} (h1 : plain d = true) (h2 : (toPy d).canLay0 = true) (h3 : (toPy d).depth ≤ 64) : okE d = true := by
  simp [okE, h1, SeqAt.shaped, h2, h3]
theorem plain_tN (l : List Nat) : plain (tN l) = true := by simp [tN, plain, plainAll_all]
theorem lay_tN (l : List Nat) : (toPy (tN l)).canLay0 = true := by simp [tN, toPy, PyData.canLay0, canLayAll_all, toPyAll_map']
theorem depth_tN (l : List Nat) : (toPy (tN l)).depth ≤ 1 := by
  simp only [tN, toPy, PyData.depth, toPyAll_map', List.map_map]
  have : PyData.depthAll (l.map (toPy ∘ fun (n : Nat) => D.int (n : Int))) ≤ 0 := depthAll_le fun d hd => by
    obtain ⟨n, _, rfl⟩ := List.mem_map.mp hd
    simp [toPy, PyData.depth]
  omega
@[simp] theorem okE_tN (l : List Nat) : okE (tN l) = true := okE_of (plain_tN l) (lay_tN l) (by have := depth_tN l; omega)
@[simp] theorem okE_rows (ls : List (List Nat)) : okE (.lst (ls.map tN)) = true := by
  refine okE_of ?_ ?_ ?_
  · simp [plain, plainAll_all, plain_tN]
  · simp [toPy, PyData.canLay0, canLayAll_all, toPyAll_map', lay_tN]
  · simp only [toPy, PyData.depth, toPyAll_map', List.map_map]
    have : PyData.depthAll (ls.map (toPy ∘ tN)) ≤ 1 := depthAll_le fun d hd => by
      obtain ⟨n, _, rfl⟩ := List.mem_map.mp hd
      exact depth_tN n
    omega
theorem eqvAll_nats : ∀ (l m : List Nat), PyData.eqvAll (toPyAll (l.map fun (n : Nat) => D.int (n : Int))) (toPyAll (m.map fun (n : Nat) => D.int (n : Int))) = decide (l = m)
  | [], [] => by simp [toPyAll, PyData.eqvAll]
  | [], _ :: _ => by simp [toPyAll, PyData.eqvAll]
  | _ :: _, [] => by simp [toPyAll, PyData.eqvAll]
  | a :: l, b :: m => by
    have ih := eqvAll_nats l m
    simp only [List.map_cons, toPyAll, PyData.eqvAll, ih, toPy, PyData.eqv]
    by_cases c : a = b
    · subst c; simp
    · have : ((a : Int) == (b : Int)) = false := by
        rw [beq_eq_false_iff_ne]; omega
      rw [this]; simp [c]
@[simp] theorem eqv_tN (l m : List Nat) : eqv (tN l) (tN m) = decide (l = m) := by
  simp only [eqv, tN, toPy, PyData.eqv]
  exact eqvAll_nats l m
theorem eqvAll_rows : ∀ (l m : List (List Nat)), PyData.eqvAll (toPyAll (l.map tN)) (toPyAll (m.map tN)) = decide (l = m)
  | [], [] => by simp [toPyAll, PyData.eqvAll]
  | [], _ :: _ => by simp [toPyAll, PyData.eqvAll]
  | _ :: _, [] => by simp [toPyAll, PyData.eqvAll]
  | a :: l, b :: m => by
    have ih := eqvAll_rows l m
    have e : PyData.eqv (toPy (tN a)) (toPy (tN b)) = decide (a = b) := eqv_tN a b
    simp only [List.map_cons, toPyAll, PyData.eqvAll, ih, e]
    by_cases c : a = b
    · subst c; simp
    · simp [c]
@[simp] theorem neD_rows (l m : List (List Nat)) : neD (.lst (l.map tN)) (.lst (m.map tN)) = some (.bl (!decide (l = m))) := by
  simp only [neD, fitE, okE_rows, Bool.and_self, Bool.or_true, if_true]
  congr 2
  simp only [eqv, toPy, PyData.eqv]
  rw [eqvAll_rows]
@[simp] theorem neD_tN (l m : List Nat) : neD (tN l) (tN m) = some (.bl (!decide (l = m))) := by
  simp [neD, fitE]
/-- the items by their place -/
theorem atI_nat {α : Type} {l : List α} {i : Nat} (h : i < l.length) : L2.atI l (i : Int) = l[i]? := by
  unfold L2.atI L2.ixN
  rw [if_pos (by omega), if_pos (by omega)]
  simp
theorem atI_last {α : Type} {l : List α} (h : l ≠ []) : L2.atI l (-1) = l[l.length - 1]? := by
  have : 0 < l.length := List.length_pos_iff.mpr h
  unfold L2.atI L2.ixN
  rw [if_neg (by omega), if_pos (by omega)]
  simp only [Option.bind_some]
  congr 1
  omega
theorem idx_tN {l : List Nat} {i : Nat} (h : i < l.length) : idxD (tN l) (.int (i : Int)) = some (.int (l.getD i 0 : Nat)) := by
  show (items (tN l)).bind (fun xs => L2.atI xs (i : Int)) = _
  simp only [tN, items, Option.bind_some]
  rw [atI_nat (by simpa using h), List.getElem?_map, List.getElem?_eq_getElem h]
  simp [List.getD_eq_getElem?_getD, h]
theorem idx_lst {l : List D} {i : Nat} {d : D} (h : l[i]? = some d) : idxD (.lst l) (.int (i : Int)) = some d := by
  show (items (.lst l)).bind (fun xs => L2.atI xs (i : Int)) = _
  simp only [items, Option.bind_some]
  rw [atI_nat (List.getElem?_eq_some_iff.mp h).1, h]
theorem idx_last {l : List Nat} (h : l ≠ []) : idxD (tN l) (.int (-1)) = some (.int (l.getLast h : Nat)) := by
  show (items (tN l)).bind (fun xs => L2.atI xs (-1)) = _
  simp only [tN, items, Option.bind_some]
  rw [atI_last (by simpa using h), List.getElem?_map, List.length_map, ← List.getLast?_eq_getElem?, List.getLast?_eq_some_getLast h]
  rfl
@[simp] theorem in_tN (l : List Nat) (a : Nat) : inB (.int (a : Int)) (tN l) = some (l.contains a) := by
  have e : inB (.int (a : Int)) (tN l) = if okE (.int (a : Int)) = true ∧ okE (tN l) = true then some ((l.map fun (n : Nat) => D.int (n : Int)).any fun z => eqv z (.int (a : Int))) else none := nr rfl
  rw [e, if_pos ⟨okE_int _, okE_tN l⟩]
  congr 1
  clear e
  induction l with
  | nil => rfl
  | cons b l ih =>
    simp only [List.map_cons, List.any_cons, List.contains_cons, eqv_int]
    rw [ih]
    congr 1
    by_cases c : a = b
    · subst c; rw [beq_self_eq_true, beq_self_eq_true]
    · have h1 : ((b : Int) == (a : Int)) = false := by rw [beq_eq_false_iff_ne]; omega
      have h2 : (a == b) = false := by rw [beq_eq_false_iff_ne]; exact c
      rw [h1, h2]
@[simp] theorem len_tN (l : List Nat) : lenF [tN l] = some (.int (l.length : Int)) := by simp [lenF, lenB, tN, items]
@[simp] theorem len_lst (l : List D) : lenF [.lst l] = some (.int (l.length : Int)) := by simp [lenF, lenB, items]
theorem add_tN {l m : List Nat} (h : l.length + m.length ≤ sizeLine) : addD (tN l) (tN m) = some (tN (l ++ m)) := by
  simp [addD, tN, h]
def iN (l : List Nat) : List D := l.map fun (n : Nat) => .int (n : Int)
theorem rng_nat (n : Nat) : rngD 0 n 1 = iN (List.range n) := by
  simp [rngD, iN]
theorem small_nat {n : Nat} (h : n < 2 ^ 62) : small62 (n : Int) = true := by
  simp only [small62, Bool.and_eq_true, decide_eq_true_eq]
  constructor <;> omega
theorem rngF1 {n : Nat} (h : n < 2 ^ 62) : rangeF1 [.int (n : Int)] = some (iN (List.range n)) := by
  have : small62 (n : Int) = true := small_nat h
  simp only [rangeF1, this, if_true, Int.toNat_natCast, rng_nat]
/-- a, a + 1, .. , b - 1 -/
def upto (a b : Nat) : List Nat := (List.range (b - a)).map fun k => a + k
theorem rngF2 {a b : Nat} (ha : a < 2 ^ 62) (hb : b < 2 ^ 62) : rangeF2 [.int (a : Int), .int (b : Int)] = some (iN (upto a b)) := by
  have h1 : small62 (a : Int) = true := small_nat ha
  have h2 : small62 (b : Int) = true := small_nat hb
  have : ((b : Int) - (a : Int)).toNat = b - a := by omega
  show (if small62 (a : Int) = true ∧ small62 (b : Int) = true then some (rngD (a : Int) ((b : Int) - (a : Int)).toNat 1) else none) = _
  rw [if_pos ⟨h1, h2⟩, this]
  refine congrArg some ?_
  unfold rngD iN upto
  rw [List.map_map]
  refine List.map_congr_left fun k _ => ?_
  refine congrArg D.int ?_
  show (a : Int) + (k : Int) * 1 = ((a + k : Nat) : Int)
  omega
/-- a, a + 2, .. below b -/
def by2 (a b : Nat) : List Nat := (List.range ((b - a + 1) / 2)).map fun k => a + k * 2
theorem rngF3 {a b : Nat} (ha : a < 2 ^ 62) (hb : b < 2 ^ 62) : rangeF3 [.int (a : Int), .int (b : Int), .int 2] = some (iN (by2 a b)) := by
  have h1 : small62 (a : Int) = true := small_nat ha
  have h2 : small62 (b : Int) = true := small_nat hb
  have : (((b : Int) - (a : Int) + 1) / 2).toNat = (b - a + 1) / 2 := by omega
  show (if small62 (a : Int) = true ∧ small62 (b : Int) = true then (if (2 : Int) = -1 then some (rngD (a : Int) ((a : Int) - (b : Int)).toNat (-1)) else if (2 : Int) = 2 then some (rngD (a : Int) (((b : Int) - (a : Int) + 1) / 2).toNat 2) else none) else none) = _
  rw [if_pos ⟨h1, h2⟩, if_neg (by decide), if_pos rfl, this]
  refine congrArg some ?_
  unfold rngD iN by2
  rw [List.map_map]
  refine List.map_congr_left fun k _ => ?_
  refine congrArg D.int ?_
  show (a : Int) + (k : Int) * 2 = ((a + k * 2 : Nat) : Int)
  omega
end DL
set_option Elab.async false
set_option linter.all false
set_option maxRecDepth 100000
set_option maxHeartbeats 2000000
namespace DL
open PySem PySem.Spec PyProof.Rows L2
/-! ### rules of reckoning, for simp -/
section
variable {env : En} {f g h : En → R D} {t u : En → R Bool} {ga : En → R (List D)} {F G : En → Fl} {d : D} {s : Sl} {i j n m : Nat}
@[simp] theorem val_un : Sl.un.val = none := nr rfl
@[simp] theorem val_sh : (Sl.sh d).val = some d := nr rfl
@[simp] theorem val_ow : (Sl.ow d).val = some d := nr rfl
@[simp] theorem look_zero : look (s :: env) 0 = s.val := nr rfl
@[simp] theorem look_succ : look (s :: env) (n + 1) = look env n := nr rfl
@[simp] theorem ofR_some {a : Type} (x : a) : R.of (some x) = .ok x := nr rfl
@[simp] theorem ofR_none {a : Type} : R.of (none : Option a) = .no := nr rfl
@[simp] theorem eVar_eq : eVar i env = R.of (look env i) := nr rfl
@[simp] theorem eC_eq : eC d env = .ok d := nr rfl
@[simp] theorem eNil_eq : eNil env = .ok [] := nr rfl
@[simp] theorem eCons_eq : eCons f ga env = f env >>= fun d => ga env >>= fun ds => .ok (d :: ds) := nr rfl
@[simp] theorem eOp_eq {P : D → D → Option D} : eOp P f g env = f env >>= fun x => g env >>= fun y => R.of (P x y) := nr rfl
@[simp] theorem eB_eq : eB f env = f env >>= fun d => R.of (asB d) := nr rfl
@[simp] theorem asB_bl (b : Bool) : asB (.bl b) = some b := nr rfl
@[simp] theorem eTru_eq : eTru f env = f env >>= fun d => R.of (truB d) := nr rfl
@[simp] theorem eCh_eq {P Q : D → D → Option D} : eCh P Q f g h env = f env >>= fun x => g env >>= fun y => R.of (P x y) >>= fun c => R.of (asB c) >>= fun c => if c = true then h env >>= fun z => R.of (Q y z) else .ok (.bl false) := nr rfl
@[simp] theorem eImm_eq : eImm f env = f env >>= fun d => R.of (if imm d = true then some d else none) := nr rfl
@[simp] theorem eTop_eq : eTop f env = f env >>= fun d => R.of (if immTop d = true then some d else none) := nr rfl
@[simp] theorem eCall_eq {P : List D → Option D} : eCall P ga env = ga env >>= fun ds => R.of (P ds) := nr rfl
@[simp] theorem eCallF_eq {P : List D → R D} : eCallF n P ga env = ga env >>= fun ds => if ds.length = n then P ds else .no := nr rfl
@[simp] theorem eNone_eq : eNone env = .ok none := nr rfl
@[simp] theorem ePart_eq : ePart f env = f env >>= fun d => R.of (asPart d) := nr rfl
@[simp] theorem asPart_int (i : Int) : asPart (.int i) = some (some i) := nr rfl
@[simp] theorem eSl_eq {p q : En → R (Option Int)} : eSl f p q env = f env >>= fun c => p env >>= fun lo => q env >>= fun hi => R.of (sliceD c lo hi) := nr rfl
@[simp] theorem eAndT_eq : eAndT t u env = t env >>= fun c => if c = true then u env else .ok false := nr rfl
@[simp] theorem eOrT_eq : eOrT t u env = t env >>= fun c => if c = true then .ok true else u env := nr rfl
@[simp] theorem eNotT_eq : eNotT t env = t env >>= fun c => .ok (!c) := nr rfl
@[simp] theorem eRange_eq {P : List D → Option (List D)} : eRange P ga env = ga env >>= fun ds => R.of (P ds) := nr rfl
@[simp] theorem eIter_eq : eIter f env = f env >>= fun d => R.of (iterD d) := nr rfl
@[simp] theorem eRev_eq : eRev f env = f env >>= fun d => R.of (revD d) := nr rfl
@[simp] theorem eYes_eq : eYes env = .ok true := nr rfl
@[simp] theorem eLst_eq : eLst ga env = ga env >>= fun ds => R.of (if ds.length ≤ sizeLine then some (.lst ds) else none) := nr rfl
@[simp] theorem eTup_eq : eTup ga env = ga env >>= fun ds => R.of (if ds.length ≤ sizeLine then some (.tup ds) else none) := nr rfl
@[simp] theorem eAnd_eq : eAnd f g env = f env >>= fun d => R.of (asB d) >>= fun c => if c = true then g env else .ok (.bl false) := nr rfl
@[simp] theorem eOr_eq : eOr f g env = f env >>= fun d => R.of (asB d) >>= fun c => if c = true then .ok (.bl true) else g env := nr rfl
@[simp] theorem eNot_eq : eNot f env = f env >>= fun d => R.of (asB d) >>= fun c => .ok (.bl (!c)) := nr rfl
@[simp] theorem eNeg_eq : eNeg f env = f env >>= fun d => match d with
  | .int i => .ok (.int (-i))
  | _ => .no := nr rfl
@[simp] theorem eIf_eq {c : Type} {x y : En → R c} : eIf t x y env = t env >>= fun b => if b = true then x env else y env := nr rfl
@[simp] theorem sSeq_eq : sSeq F G env = (match F env with
  | .nx e => G e
  | r => r) := nr rfl
@[simp] theorem sNil_eq : sNil env = .nx env := nr rfl
@[simp] theorem sIf_eq : sIf t F G env = onE (t env) env fun b => if b = true then F env else G env := nr rfl
@[simp] theorem sRet_eq : sRet f env = onE (f env) env fun d => .rt d := nr rfl
@[simp] theorem sSetF_eq : sSetF i f env = onE (f env) env fun d => if i < env.length then .nx (env.set i (.ow d)) else .no := nr rfl
@[simp] theorem sSetI_eq : sSetI i f env = onE (f env) env fun d => if imm d = true ∧ i < env.length then .nx (env.set i (.ow d)) else .no := nr rfl
@[simp] theorem sSetS_eq : sSetS i f env = onE (f (env.map hideS)) env fun d => if i < env.length then .nx (env.set i (.sh d)) else .no := nr rfl
@[simp] theorem sPutF_eq {T : Tg} : sPutF T f env = onE (f env) env fun d => sPut T d env := nr rfl
@[simp] theorem sPutS_eq {T : Tg} : sPutS T f env = onE (f (env.map hideS)) env fun d => sPut T d env := nr rfl
@[simp] theorem sDrop_eq : sDrop f env = onE (f env) env fun _ => .nx env := nr rfl
@[simp] theorem sRaise_eq (c : Str) : sRaise c env = .ex c env := nr rfl
@[simp] theorem put_nm : put (.nm i) d env = if i < env.length then some (env.set i (.sh d)) else none := by simp [put]
@[simp] theorem sAppI_eq : sAppI i f env = onList i env fun xs => onE (f env) env fun d => if imm d = true then appL i xs d env else .no := nr rfl
@[simp] theorem sExtI_eq : sExtI i f env = onList i env fun xs => onE (f env) env fun d => if immTop d = true then extL i xs d env else .no := nr rfl
@[simp] theorem sForF_eq {T : Tg} {fi : En → R (List D)} : sForF T fi F env = onE (fi env) env fun ds => loop T F ds env := nr rfl
@[simp] theorem hide_un : hideS .un = .un := nr rfl
@[simp] theorem hide_sh : hideS (.sh d) = .sh d := nr rfl
@[simp] theorem hide_ow : hideS (.ow d) = .un := nr rfl
@[simp] theorem imm_int (k : Int) : imm (.int k) = true := by simp [imm]
@[simp] theorem imm_bl (k : Bool) : imm (.bl k) = true := by simp [imm]
@[simp] theorem imm_non : imm .non = true := by simp [imm]
@[simp] theorem imm_str (k : Str) : imm (.str k) = true := by simp [imm]
@[simp] theorem immTop_lst (l : List D) : immTop (.lst l) = immAll l := nr rfl
@[simp] theorem immTop_tup (l : List D) : immTop (.tup l) = immAll l := nr rfl
@[simp] theorem immTop_int (k : Int) : immTop (.int k) = true := by simp [immTop]
@[simp] theorem immAll_nil : immAll [] = true := by simp [immAll]
@[simp] theorem immAll_cons (l : List D) : immAll (d :: l) = (imm d && immAll l) := by simp [immAll]
@[simp] theorem immTop_tN (l : List Nat) : immTop (tN l) = true := by
  have := imm_tN l
  simpa [tN, imm, immTop] using this
@[simp] theorem immAll_tN (l : List (List Nat)) : immAll (l.map tN) = true := by simp [immAll_all]
@[simp] theorem add_int (a b : Int) : addD (.int a) (.int b) = some (.int (a + b)) := nr rfl
@[simp] theorem sub_int (a b : Int) : subD (.int a) (.int b) = some (.int (a - b)) := nr rfl
@[simp] theorem mod_int (a b : Int) : modD (.int a) (.int b) = if 0 < b then some (.int (a % b)) else none := nr rfl
@[simp] theorem lt_int (a b : Int) : ltD (.int a) (.int b) = some (.bl (decide (a < b))) := nr rfl
@[simp] theorem le_int (a b : Int) : leD (.int a) (.int b) = some (.bl (decide (a ≤ b))) := nr rfl
@[simp] theorem gt_int (a b : Int) : gtD (.int a) (.int b) = some (.bl (decide (b < a))) := nr rfl
@[simp] theorem ge_int (a b : Int) : geD (.int a) (.int b) = some (.bl (decide (b ≤ a))) := nr rfl
@[simp] theorem in_eq (x c : D) : inD x c = (inB x c).map .bl := nr rfl
@[simp] theorem nin_eq (x c : D) : ninD x c = (inB x c).map fun b => .bl (!b) := nr rfl
@[simp] theorem iter_lst (l : List D) : iterD (.lst l) = some l := nr rfl
@[simp] theorem iter_tup (l : List D) : iterD (.tup l) = some l := nr rfl
@[simp] theorem iter_fz (l : List D) : iterD (.fz l) = some l := nr rfl
@[simp] theorem iter_tN (l : List Nat) : iterD (tN l) = some (iN l) := nr rfl
@[simp] theorem int_int (a : Int) : intF [.int a] = some (.int a) := nr rfl
@[simp] theorem is_non (d : D) : isD d .non = some (.bl (match d with | .non => true | .io none _ => true | _ => false)) := nr rfl
@[simp] theorem isn_non (d : D) : isnD d .non = some (.bl (match d with | .non => false | .io none _ => false | _ => true)) := nr rfl
end
@[simp] theorem line1 : 1 ≤ sizeLine := by rw [sizeLine_val]; decide
@[simp] theorem line2 : 2 ≤ sizeLine := by rw [sizeLine_val]; decide
@[simp] theorem line3 : 3 ≤ sizeLine := by rw [sizeLine_val]; decide
@[simp] theorem line4 : 4 ≤ sizeLine := by rw [sizeLine_val]; decide
@[simp] theorem line5 : 5 ≤ sizeLine := by rw [sizeLine_val]; decide
@[simp] theorem line10 : 10 ≤ sizeLine := by rw [sizeLine_val]; decide
/-- n is this many: a number beyond no line -/
theorem small_line {n : Nat} (h : n ≤ 1000000) : n ≤ sizeLine := by rw [sizeLine_val]; omega
theorem one_line : (1 : Nat) ≤ sizeLine := by rw [sizeLine_val]; decide
@[simp] theorem lens_line : ([] : List D).length ≤ sizeLine := Nat.zero_le _
end DL
set_option Elab.async false
set_option linter.all false
set_option maxRecDepth 100000
set_option maxHeartbeats 2000000
namespace DL
open PySem PySem.Spec PyProof.Rows L2
/-! ### x += e, x -= e with numbers -/
def plusI (i j : Int) : Option Int := some (i + j)
def lessI (i j : Int) : Option Int := some (i - j)
section
variable {X : Cx} {W : WX}
theorem ip_addD : PIp X .Add (tipI plusI) := fun pins s σ H x y v u Q I r1 r2 ⟨a, b, z, h1, h2, h3, q⟩ => ip_add pins s σ H x y v u Q I r1 r2 ⟨a, b, h1, h2, by cases h3; exact q⟩
theorem ip_subD : PIp X .Sub (tipI lessI) := fun pins s σ H x y v u Q I r1 r2 ⟨a, b, z, h1, h2, h3, q⟩ => ip_sub pins s σ H x y v u Q I r1 r2 ⟨a, b, h1, h2, by cases h3; exact q⟩
/-! ### several except clauses -/
def pick : List (List (Str × Bool) × (En → Fl)) → Str → En → Fl
  | [], x, e => .ex x e
  | (cat, G) :: r, x, e => match cat.lookup x with
    | some true => G e
    | some false => pick r x e
    | none => .no
def sTryM (hs : List (List (Str × Bool) × (En → Fl))) (F : En → Fl) (env : En) : Fl := match F env with
  | .ex x e => pick hs x e
  | r => r
inductive HdsD (X : Cx) (W : WX) : List ExceptHandler → List (List (Str × Bool) × (En → Fl)) → Prop
  | nil : HdsD X W [] []
  | cons {y : Str} {b₀ : Stmt} {suite : List Stmt} {np pos' : Pos} {hds : List ExceptHandler} {l : List (List (Str × Bool) × (En → Fl))} {cat : List (Str × Bool)} {G : En → Fl} (hy : ∃ C, X.mg y = some (.ref C)) (hcat : ∀ p ∈ cat, CatD X.K X.mg y p.1 p.2)
      (hsu : ∀ (a : Addr) (oe : Obj) (cls : Value) (d : Option Addr) (pn : List (Addr × Obj)), DSs (X.suite a ((a, oe) :: pn)) W (b₀ :: suite) G) (r : HdsD X W hds l) (hg : Gl X y := by rfl) (hdb : (y == ("__debug__" : Str)) = false := by decide) :
      HdsD X W (.ExceptHandler (some (.Name y np)) none (b₀ :: suite) pos' :: hds) ((cat, G) :: l)
theorem hds_ok {hds : List ExceptHandler} {l : List (List (Str × Bool) × (En → Fl))} (h : HdsD X W hds l) : ∃ l', HdsOk X hds l' ∧ ∀ (Z : Hp) (D : Ends) (x : Str) (e : En), Go X.K X.mg W Z D (pick l x e) → ∀ C σ' H', X.mg x = some (.ref C) → EO X.K X.mg Z e σ' H' → wMany X.K W D l' (.ref C) none σ' H' := by
  induction h with
  | nil => exact ⟨[], .nil, fun Z D x e g C σ' H' m E => g C σ' H' m E⟩
  | @cons y b₀ suite np pos' hds l cat G hy hcat hsu r hg hdb ih =>
    obtain ⟨l', h1, h2⟩ := ih
    obtain ⟨C0, hC⟩ := hy
    refine ⟨(.ref C0, fun _ _ _ => tS X.K X.mg W G) :: l', .cons ⟨hg, hdb, .inl hC⟩ (fun a oe cls d pn _ _ => hsu a oe cls d pn) h1, fun Z D x e g C σ' H' m E => ?_⟩
    unfold pick at g
    cases q : cat.lookup x with
    | none => rw [q] at g; exact g.elim
    | some b =>
      rw [q] at g
      refine ⟨b, hcat _ (lookup_mem q) C0 C hC m, fun hb a ha => ?_, fun hb => ?_⟩
      · subst hb; exact ⟨Z, e, E, g⟩
      · subst hb; exact h2 Z D x e g C σ' H' m E
theorem ds_tryM {body : List Stmt} {h₀ : ExceptHandler} {hds : List ExceptHandler} {l : List (List (Str × Bool) × (En → Fl))} {pos : Pos} {F : En → Fl} (tk : Takes X W) (hh : HdsD X W (h₀ :: hds) l)
    (hb : ∀ (W : WX) (pn : List (Addr × Obj)) (xe : Value → Shared → Prop), Takes (X.tr pn xe) W → PassesOwn (model X.prog X.w) X.A X.env xe → DSs (X.tr pn xe) W body F)
    (hs : X.stack = X.env :: X.outer := by rfl) (hf : X.env.frame = some X.env.locals := by rfl) : DS X W (.Try body (h₀ :: hds) [] [] pos) (sTryM l F) := by
  obtain ⟨l', h1, h2⟩ := hds_ok hh
  refine ps_weak (ps_try_many (tb := fun W => tS X.K X.mg W F) hs hf tk hb h1) fun D σ H ⟨Z, env, E, g⟩ => ?_
  refine ⟨Z, env, E, ?_⟩
  unfold sTryM at g
  cases q : F env with
  | nx e => rw [q] at g; exact g
  | rt d => rw [q] at g; exact g
  | bk e => rw [q] at g; exact g
  | ct e => rw [q] at g; exact g
  | no => rw [q] at g; exact g
  | ex y e =>
    rw [q] at g
    exact fun C σ' H' m E1 => h2 Z D y e g C σ' H' m E1
end
end DL
set_option Elab.async false
set_option linter.all false
set_option maxRecDepth 100000
set_option maxHeartbeats 2000000
namespace DL
open PySem PySem.Spec PyProof.Rows L2
/-! ### x = xs.pop(), xs[k] = e: lists of what can't be changed -/
def popTo (i j : Nat) (xs : List D) (env : En) : Fl := match xs[xs.length - 1]? with
  | some d => if immAll xs = true ∧ i < env.length ∧ i ≠ j then .nx ((env.set j (.ow (.lst (xs.take (xs.length - 1))))).set i (.ow d)) else .no
  | none => .no
def sPop (i j : Nat) (env : En) : Fl := onList j env fun xs => popTo i j xs env
def setAt (j : Nat) (xs : List D) (k d : D) (env : En) : Fl := match k with
  | .int k => match L2.ixN xs.length k with
    | some m => if immAll xs = true ∧ imm d = true then .nx (env.set j (.ow (.lst (xs.set m d)))) else .no
    | none => .no
  | _ => .no
def sSetAt (j : Nat) (fk f : En → R D) (env : En) : Fl := onE (f env) env fun d => onList j env fun xs => onE (fk env) env fun k => setAt j xs k d env
theorem imm_sub {xs : List D} (h : immAll xs = true) {d : D} (m : d ∈ xs) : imm d = true := by
  rw [immAll_all, List.all_eq_true] at h
  exact h d m
section
variable {K : PySem.W.Frag} {mg : Str → Option Value} {Z H : Hp} {env : En} {σ : L2.St} {fps : Nat → List Addr}
theorem VAll.setAt : ∀ {ds : List D} {vs : List V} {m : Nat} {d : D} {v : V}, VAll K mg H ds vs [] → Val K mg H d v [] → VAll K mg H (ds.set m d) (vs.set m v) []
  | [], vs, m, d, v, h, hv => by simp only [VAll] at h; rw [h.1]; simpa using VAll.nil
  | e :: ds, vs, m, d, v, h, hv => by
    simp only [VAll] at h
    obtain ⟨u, ur, f, g, ev, ef, h1, h2⟩ := h
    have hf : f = [] := by cases f <;> simp at ef; rfl
    have hg : g = [] := by rw [hf] at ef; simpa using ef.symm
    subst ev hf hg
    cases m with
    | zero => exact VAll.cons (f := []) (g := []) hv h2
    | succ m => exact VAll.cons (f := []) (g := []) h1 (VAll.setAt h2 hv)
/-- an own list of what can't be changed gets other items -/
theorem ER.relist (E : ER K mg Z env σ H fps) {j : Nat} {xs ys : List D} {a : Addr} {vs us : List V} {f : List Addr} (hj : env[j]? = some (.ow (.lst xs))) (s1 : σ[j]? = some (some (.ref a))) (ef : fps j = a :: f) (ha : H a = some (.lst vs)) (hu : VAll K mg H ys us []) :
    ∃ fps', ER K mg Z (env.set j (.ow (.lst ys))) σ (upd H a (.lst us)) fps' ∧ ∀ {d : D} {v : V}, Val K mg H d v [] → Val K mg (upd H a (.lst us)) d v [] := by
  have kp : Kp [] H (upd H a (.lst us)) := Kp.upd (by simp) (fun xs z => by rw [ha] at z; cases z) (fun o xs z => by rw [ha] at z; cases z) (fun x z => by rw [ha] at z; cases z)
  refine ⟨_, E.mut (fp' := [a]) hj (by rw [ef]; exact List.mem_cons_self) trivial s1 (val_lst upd_same (VAll.kp _ hu kp)) (by simp) fun b hb => .inl ?_, fun h => Val.kp _ h kp⟩
  simp only [List.mem_singleton] at hb
  subst hb
  rw [ef]; exact List.mem_cons_self
end
section
variable {X : Cx} {W : WX} {pos cpos apos px py : Pos} {x y : Str}
theorem ds_pop {i j : Nat} (hy : PE X (.Name y py) (tVar j)) (hN : X.N.Nodup) (hi : X.N[i]? = some x := by rfl) (hx : Loc X.env.scope x := by first | exact Or.inl rfl | exact Or.inr rfl) (hbase : attributeBase (.Name y py) "pop" X.env (eval (.Name y py) X.env) = eval (.Name y py) X.env := by rfl) (hline : (apos.endLine == cpos.line) = true := by rfl)
    (hs : swapsWith (.Call (.Attribute (.Name y py) "pop" apos) [] [] cpos) (some (.Name x px)) pos.line X.env = pure false := by rfl) (hf : X.fn x = true ∨ X.env.scope.names.lookup x = some .local := by first | exact .inl rfl | exact .inr rfl | assumption) :
    DS X W (.Assign [.Name x px] (.Call (.Attribute (.Name y py) "pop" apos) [] [] cpos) pos) (sPop i j) :=
  ps_weak (ps_set hN hi hx (pe_bm0 PySem.F.plainAttrs_list PySem.F.slot_list_pop PySem.F.type_list_pop mt_pop hy hbase hline) hs hf) fun D σ H ⟨Z, env, E, g⟩ => by
  obtain ⟨fps, E⟩ := E
  obtain ⟨xs, hj, g⟩ := Go.list g
  obtain ⟨a, vs, fl, s1, ef, ha, hvs, nd⟩ := E.list hj
  refine ⟨_, s1, .inl ⟨rfl, vs, .inl (.inl ha)⟩, ?_⟩
  unfold popTo at g
  split at g
  · rename_i d hd
    split at g
    · rename_i hc
      obtain ⟨v, fd, q1, q2, q3⟩ := hvs.get hd
      have hfl := VAll.imm _ hvs hc.1
      subst hfl
      have hfd := Val.imm _ q2 (imm_sub hc.1 (List.mem_of_getElem? hd))
      subst hfd
      have hlen := hvs.length
      obtain ⟨g1, g2, ht, _, hg1⟩ := hvs.take (xs.length - 1)
      have hg : g1 = [] := (List.append_eq_nil_iff.mp hg1.symm).1
      subst hg
      obtain ⟨fps', E2, kv⟩ := E.relist (ys := xs.take (xs.length - 1)) (us := vs.take (xs.length - 1)) hj s1 ef ha ht
      refine ⟨a, vs, v, rfl, rfl, ha, by rw [hlen]; exact q1, ?_⟩
      have e : vs.dropLast = vs.take (xs.length - 1) := by rw [List.dropLast_eq_take, hlen]
      rw [e]
      exact g _ _ ⟨_, E2.put (by simpa using hc.2.1) (kv q2) List.nodup_nil nf fun _ _ _ _ => nf⟩
    · exact g.elim
  · exact g.elim
theorem ds_setAt {j : Nat} {ie e : Expr} {sp : Pos} {fk f : En → R D} (he : DE X W e f) (hk : DE X W ie fk) (hy : PE X (.Name y py) (tVar j))
    (hs : swapsWithSole [.Subscript (.Name y py) ie sp] e pos.line X.env = pure false := by rfl) (hw : swappedStores [.Subscript (.Name y py) ie sp] e X.env = pure none := by rfl)
    (h1 : (assignEach [.Subscript (.Name y py) ie sp] X.env).map (·.2) = [assign (.Subscript (.Name y py) ie sp) X.env] := by rfl)
    (ha : ∀ v, assign (.Subscript (.Name y py) ie sp) X.env v = (do
      let ov ← holding [v] (eval (.Name y py) X.env)
      let iv ← holding [v, ov] (eval ie X.env)
      standAt sp
      holding [v, ov, iv] (setItem ov iv v)
      release [v, ov, iv] []) := by intro _; rfl) :
    DS X W (.Assign [.Subscript (.Name y py) ie sp] e pos) (sSetAt j fk f) := ps_weak (ps_asg he (pg_sub hy hk set_list ha) hs hw h1) fun D σ H ⟨Z, env, E, g⟩ => by
  have E' := E
  obtain ⟨fps, E⟩ := E
  refine ⟨_, env, E.penv, (Go.out E' g).imp fun d g v H1 fp e1 hv hp => ?_⟩
  have E1 := E.sm e1
  have E1' : EO X.K X.mg Z env σ H1 := ⟨_, E1⟩
  obtain ⟨xs, hj, g⟩ := Go.list g
  obtain ⟨a, vs, fl, s1, ef, ha, hvs, nd⟩ := E1.list hj
  refine ⟨_, s1, _, env, E1.penv, (Go.out E1' g).imp fun k g u H2 fp2 e2 hk2 _ => ?_⟩
  have E2 := E1.sm e2
  unfold setAt at g
  split at g
  · rename_i kk
    split at g
    · rename_i m hm
      split at g
      · rename_i hc
        have hvs2 := hvs.sm e2
        have hfl := VAll.imm _ hvs2 hc.1
        subst hfl
        have hfd := Val.imm _ hv hc.2
        subst hfd
        obtain ⟨fps', E3, _⟩ := E2.relist (ys := xs.set m d) (us := vs.set m v) hj s1 ef (e2 _ _ ha) (VAll.setAt hvs2 (hv.sm e2))
        simp only [Val] at hk2
        exact ⟨a, vs, kk, m, rfl, hk2.1, e2 _ _ ha, by rw [hvs.length]; exact hm, g _ _ ⟨_, E3⟩⟩
      · exact g.elim
    · exact g.elim
  · exact g.elim
end
end DL
set_option Elab.async false
set_option linter.all false
set_option maxRecDepth 100000
set_option maxHeartbeats 2000000
namespace DL
open PySem PySem.Spec PyProof.Rows L2
/-! ### instances: fields and methods -/
/-- an own class -/
def ClsD (K : PySem.W.Frag) (mg : Str → Option Value) (c : Str) : Prop := ∃ C, mg c = some (.ref C) ∧ Cls K C
/-- a name that the class itself doesn't have -/
def FldD (K : PySem.W.Frag) (mg : Str → Option Value) (c n : Str) : Prop := ∀ C, mg c = some (.ref C) → NoAttr K C n
def fldOf : List Str → List D → Str → Option D
  | f :: fs, x :: xs, n => if f = n then some x else fldOf fs xs n
  | _, _, _ => none
/-- the field n of an instance of c -/
def fldD (c n : Str) : D → Option D
  | .ins c' _ fs xs => if c' = c then fldOf fs xs n else none
  | .fi c' fs xs => if c' = c then fldOf fs xs n else none
  | _ => none
def eFld (c n : Str) (f : En → R D) (env : En) : R D := f env >>= fun d => R.of (fldD c n d)
theorem fld_val {K : PySem.W.Frag} {mg : Str → Option Value} {H : Hp} {n : Str} {d : D} : ∀ {kvs : List (Str × V)} {xs : List D} {f : List Addr}, VAll K mg H xs (kvs.map (·.2)) f → fldOf (kvs.map (·.1)) xs n = some d → ∃ v g, kvs.lookup n = some v ∧ Val K mg H d v g ∧ ∀ b ∈ g, b ∈ f
  | [], xs, f, h, e => by cases xs <;> simp [fldOf] at e
  | (m, u) :: kvs, [], f, h, e => by simp [fldOf] at e
  | (m, u) :: kvs, x :: xs, f, h, e => by
    simp only [List.map_cons, VAll] at h
    obtain ⟨v, vr, g1, g2, ev, ef, h1, h2⟩ := h
    obtain ⟨rfl, rfl⟩ := List.cons.inj ev
    simp only [List.map_cons, fldOf] at e
    split at e
    · rename_i hm
      subst hm
      cases e
      exact ⟨u, g1, by simp [List.lookup], h1, fun b hb => by rw [ef]; exact List.mem_append_left _ hb⟩
    · rename_i hm
      obtain ⟨w, g, q1, q2, q3⟩ := fld_val h2 e
      refine ⟨w, g, ?_, q2, fun b hb => by rw [ef]; exact List.mem_append_right _ (q3 b hb)⟩
      have : (n == m) = false := by rw [beq_eq_false_iff_ne]; exact Ne.symm hm
      simp [List.lookup, this, q1]
/-- an instance at a, held fast or not -/
def tFldR (K : PySem.W.Frag) (ta : TE) (f : Str) : TE := fun σ H Q => ta σ H fun x H1 => ∃ a C dx fs v, x = .ref a ∧ Rd H1 a (.ins C dx fs) ∧ Cls K C ∧ NoAttr K C f ∧ fs.lookup f = some v ∧ Q v H1
section
variable {P : Program} {w : World} {H : Hp} {h : Heap} {a C dx : Addr} {fs : List (Str × V)}
theorem ins_getR (hok : HOk P w H h) (e : Rd H a (.ins C dx fs)) : ∃ mA, ObjM h a dx C mA ∧ (∀ f, RelO (fs.lookup f) (mA f)) := by
  have x : ObjOk P w H h a (.ins C dx fs) := by
    rcases e with e | ⟨o, e⟩
    · exact hok a _ e
    · exact (show ObjOk P w H h a (.frz o (.ins C dx fs)) from hok a _ e).2
  obtain ⟨d, z, ne, ob, mA, n, r, q⟩ := x
  exact ⟨mA, ⟨ob, n, ne⟩, r⟩
end
section
variable {X : Cx} {pins : List (Addr × Obj)} {σ : L2.St} {H : Hp} {s : Shared} {a C dx : Addr} {fs : List (Str × V)} {f : Str} {v : V} {A : Around} {E : Value → Shared → Prop}
theorem getattr_okR {b : Bool} {Q : Value → Shared → Prop} (I : Inv X pins σ H s) (e : Rd H a (.ins C dx fs)) (c : Cls X.K C) (n : NoAttr X.K C f) (l : fs.lookup f = some v)
    (h : ∀ u s', Inv X pins σ H s' → RelV v u → Q u s') : wpAny (model X.prog X.w) A (getAttr (.ref a) f b) Q E s := by
  obtain ⟨mA, O, r⟩ := ins_getR I.hok e
  obtain ⟨u, hu, ru⟩ := RelO.some_of (v := v) (o := mA f) (by rw [← l]; exact r f)
  exact get_map I.kIn O (c.get f) c.hd n hu (handed_of ru) (h u _ (I.tok _) ru)
theorem getmeth_okR {m : Str} {g : Addr} {pl : Sem Bool} {Q : Value × List Value → Shared → Prop} (I : Inv X pins σ H s) (e : Rd H a (.ins C dx fs)) (c : Cls X.K C) (k : Meth X.K C m g) (l : fs.lookup m = none)
    (h : Q (.ref g, [.ref a]) s) : wpAny (model X.prog X.w) A (getMethod (.ref a) m pl) Q E s := by
  obtain ⟨mA, O, r⟩ := ins_getR I.hok e
  have hn : mA m = none := RelO.none_of (by rw [← l]; exact r m)
  exact get_meth I.kIn O (c.get m) k.at_ k.fn hn h
theorem pe_fldR {e : Expr} {ta : TE} {pos : Pos} (he : PE X e ta) (hb : attributeBase e f X.env (eval e X.env) = eval e X.env) : PE X (.Attribute e f pos) (tFldR X.K ta f) := by
  refine ⟨fun pins s σ H Q I h => ?_⟩
  refine attr_of hb (thn (he.run pins s σ H _ I h) fun u s1 ⟨x, H1, I1, rx, a, C, dx, fs, v, ex, ea, c, n, l, q⟩ => ?_)
  subst ex
  obtain rfl : u = Value.ref a := rx
  exact getattr_okR I1 ea c n l fun u' s2 I2 ru => ⟨v, H1, I2, ru, q⟩
end
section
variable {X : Cx} {W : WX} {pos : Pos} {o : Expr} {c n : Str} {f : En → R D}
theorem de_fld (h : DE X W o f) (hc : ClsD X.K X.mg c) (hn : FldD X.K X.mg c n) (hb : attributeBase o n X.env (eval o X.env) = eval o X.env := by rfl) : DE X W (.Attribute o n pos) (eFld c n f) :=
  pe_weak (pe_fldR h hb) fun σ H Q ⟨S, env, P, q⟩ => by
    refine stE P q fun d v H1 fp e1 hv hp q => ?_
    obtain ⟨r, er, qq⟩ := Out.of q
    clear q
    obtain ⟨C0, hC0, cl⟩ := hc
    unfold fldD at er
    split at er
    · split at er
      · rename_i c' id fs xs hcc
        subst hcc
        simp only [Val] at hv
        obtain ⟨a, C, dx, kvs, g, e2, ef, hm, ha, hk, hvs, _⟩ := hv
        rw [hC0] at hm
        cases hm
        subst hk
        obtain ⟨u, g', q1, q2, q3⟩ := fld_val hvs er
        exact ⟨a, _, dx, kvs, u, e2, .inl ha, cl, hn _ hC0, q1, qq u H1 g' e1 q2 fun b hb => hp b (by rw [ef]; exact List.mem_cons_of_mem _ (q3 b hb))⟩
      · cases er
    · split at er
      · rename_i c' fs xs hcc
        subst hcc
        simp only [Val] at hv
        obtain ⟨a, C, dx, kvs, o', e2, hm, ha, hk, hvs⟩ := hv
        rw [hC0] at hm
        cases hm
        subst hk
        obtain ⟨u, g', q1, q2, q3⟩ := fld_val hvs er
        exact ⟨a, _, dx, kvs, u, e2, .inr ⟨_, ha⟩, cl, hn _ hC0, q1, qq u H1 g' e1 q2 fun b hb => hp b (q3 b hb)⟩
      · cases er
    · cases er
end
end DL
set_option Elab.async false
set_option linter.all false
set_option maxRecDepth 100000
set_option maxHeartbeats 2000000
namespace DL
open PySem PySem.Spec PyProof.Rows L2
/-- a method that computes F of the instance and its arguments -/
def MethD (P : Program) (w : World) (K : PySem.W.Frag) (mg : Str → Option Value) (base : Heap) (k n : Nat) (c m : Str) (F : List D → R D) : Prop :=
  ∃ C f fd ps, mg c = some (.ref C) ∧ Cls K C ∧ Meth K C m f ∧ Binds K fd ps [] ∧ FnOk P w K mg base (L2.CX P w) k f fd ps (spD K mg n F)
/-- an instance of c that has no field m -/
def insOf (c m : Str) : D → Bool
  | .ins c' _ fs _ => decide (c' = c) && !fs.contains m
  | .fi c' fs _ => decide (c' = c) && !fs.contains m
  | _ => false
def eMeth (c m : Str) (n : Nat) (F : List D → R D) (fo : En → R D) (g : En → R (List D)) (env : En) : R D := fo env >>= fun d => if insOf c m d = true then (g env >>= fun ds => if ds.length + 1 = n then F (d :: ds) else .no) else .no
theorem lookup_none {n : Str} : ∀ {kvs : List (Str × V)}, (kvs.map (·.1)).contains n = false → kvs.lookup n = none
  | [], _ => rfl
  | (m, u) :: kvs, h => by
    simp only [List.map_cons, List.contains_cons, Bool.or_eq_false_iff] at h
    simp only [List.lookup]
    rw [h.1]
    exact lookup_none h.2
section
variable {X : Cx} {W : WX} {k n j : Nat} {F : List D → R D} {c m : Str} {apos pos : Pos} {o e : Expr} {es : List Expr} {fo : En → R D} {g : En → R (List D)}
/-- what a method's call leaves behind -/
theorem meth_q {K : PySem.W.Frag} {mg : Str → Option Value} {σ : L2.St} {H H1 : Hp} {Q : VK} {d : D} {ds : List D} {x : V} {vs : List V} {fp fq : List Addr} (e1 : Sm H H1) (hv : Val K mg H1 d x fp) (hvs : VAll K mg H1 ds vs fq) (hl : ds.length + 1 = n) (q : Out mg W σ H1 (F (d :: ds)) fun r => AfterF K mg H r Q) :
    spD K mg n F (x :: vs) H1 Q (WE W σ) := by
  refine ⟨by rw [List.length_cons, hvs.length, hl], d :: ds, fp ++ fq, VAll.cons hv hvs, ?_⟩
  cases r : F (d :: ds) with
  | ok y => rw [r] at q; exact fun v H' f' e' hv' hn' hp' => q v H' f' (e1.trans e') hv' hn' fun a ha => ⟨e1.back (hp' a ha).1, (hp' a ha).2⟩
  | ex z => rw [r] at q; exact fun C H' mm e' => q C H' mm e'
  | no => rw [r] at q; exact q
end
end DL
namespace DL
open PySem PySem.Spec PyProof.Rows L2
section
variable {X : Cx} {W : WX} {k n j : Nat} {F : List D → R D} {c m : Str} {apos pos : Pos} {o e : Expr} {es : List Expr} {fo : En → R D} {g : En → R (List D)}
theorem df_meth {plain0 : Sem Bool} (G : MethD X.prog X.w X.K X.mg X.base k n c m F) (hr : Room j X.A) (hk : k ≤ j) (tk : Takes X W) (ho : DE X W o fo) (ha : DA X W (e :: es) g)
    (h1 : starEach (e :: es) X.env = (false, eval e X.env) :: starEach es X.env := by rfl) (h2 : (backTo pos (starEach es X.env)).any (·.1) = false := by rfl)
    (h3 : eval (.Call (.Attribute o m apos) (e :: es) [] pos) X.env = (do
      let ov ← eval o X.env
      standAt apos.atName
      let (f, first) ← holding [ov] (getMethod ov m plain0)
      callWith pos f first (backTo pos (starEach (e :: es) X.env)) (backToKw pos (keywordEach [] X.env))) := by rfl) :
    DF X W (.Call (.Attribute o m apos) (e :: es) [] pos) (eMeth c m n F fo g) := by
  obtain ⟨C0, f0, fd, ps, hC, cl, hm, hb, fn⟩ := G
  refine ⟨fun pins s σ H Q I ⟨S, env, P, q⟩ => ?_⟩
  have q0 : tE X.K X.mg W fo σ H (fun x H1 => ∃ a dx fs d fp, x = .ref a ∧ Rd H1 a (.ins C0 dx fs) ∧ fs.lookup m = none ∧ Sm H H1 ∧ Val X.K X.mg H1 d x fp ∧ Out X.mg W σ H1 (g env >>= fun ds => if ds.length + 1 = n then F (d :: ds) else .no) fun r => AfterF X.K X.mg H r Q) := by
    refine stE P q fun d v H1 fp e1 hv hp qq => ?_
    split at qq
    · rename_i hi
      have hv0 := hv
      cases d with
      | ins c' id fs xs =>
        simp only [insOf, Bool.and_eq_true, decide_eq_true_eq, Bool.not_eq_true'] at hi
        obtain ⟨hcc, hno⟩ := hi
        subst hcc
        simp only [Val] at hv
        obtain ⟨a, C, dx, kvs, gg, e2, ef, hmm, hH, hkk, hvs, _⟩ := hv
        rw [hC] at hmm
        cases hmm
        subst hkk
        exact ⟨a, dx, kvs, _, fp, e2, .inl hH, lookup_none hno, e1, hv0, qq⟩
      | fi c' fs xs =>
        simp only [insOf, Bool.and_eq_true, decide_eq_true_eq, Bool.not_eq_true'] at hi
        obtain ⟨hcc, hno⟩ := hi
        subst hcc
        simp only [Val] at hv
        obtain ⟨a, C, dx, kvs, o', e2, hmm, hH, hkk, hvs⟩ := hv
        rw [hC] at hmm
        cases hmm
        subst hkk
        exact ⟨a, dx, kvs, _, fp, e2, .inr ⟨_, hH⟩, lookup_none hno, e1, hv0, qq⟩
      | _ => simp [insOf] at hi
    · exact qq.elim
  refine PySem.W.methodCall_KW (pl := plain0) (thn (ho.run pins s σ H _ I q0) fun u s1 ⟨x, H1, I1, rx, a, dx, fs, d, fp, ex, ea, l, e1, hv, q⟩ => ?_) h3
  subst ex
  obtain rfl : u = Value.ref a := rx
  refine getmeth_okR I1 ea cl hm l ?_
  have P1 := P.sm e1
  have q1 : tA X.K X.mg W g σ H1 (fun vs H2 => spD X.K X.mg n F (.ref a :: vs) H2 Q (WE W σ)) := by
    refine stA P1 q fun ds vs H2 fq e2 hvs hp q => ?_
    split at q
    · rename_i hl
      exact meth_q (e1.trans e2) (hv.sm e2) hvs hl q
    · exact q.elim
  refine PySem.W.callWith_K (first := [.ref a]) (h₀ := X.base) I.ok.mod.kin hm.kp (thn (ha.run pos pins s1 σ H1 _ I1 q1) fun us s2 ⟨vs, H2, I2, r, q2⟩ => ⟨I2.kIn, ?_⟩) h1 h2
  exact run_fnS (us := .ref a :: us) (vs := .ref a :: vs) (E := fun σ => WE W σ) fn (hr.mono hk) hb (passAt tk σ) I2 (.cons rfl r) q2
end
end DL
set_option Elab.async false
set_option linter.all false
set_option maxRecDepth 100000
set_option maxHeartbeats 2000000
namespace DL
open PySem PySem.Spec PyProof.Rows L2
/-! ### self.n = e: an own instance gets a new field -/
def onIns (i : Nat) (c n : Str) (env : En) (k : Option Nat → List Str → List D → Fl) : Fl := match env[i]? with
  | some (.ow (.ins c' id fs xs)) => if c' = c ∧ fs.contains n = false ∧ fs.length < 900 then k id fs xs else .no
  | _ => .no
def sFldF (i : Nat) (c n : Str) (f : En → R D) (env : En) : Fl := onIns i c n env fun id fs xs => onE (f env) env fun d => .nx (env.set i (.ow (.ins c id (fs ++ [n]) (xs ++ [d]))))
def sFldI (i : Nat) (c n : Str) (f : En → R D) (env : En) : Fl := onIns i c n env fun id fs xs => onE (f env) env fun d => if imm d = true then .nx (env.set i (.ow (.ins c id (fs ++ [n]) (xs ++ [d])))) else .no
theorem putF_new {n : Str} {y : V} : ∀ {kvs : List (Str × V)}, (kvs.map (·.1)).contains n = false → putF n y kvs = kvs ++ [(n, y)]
  | [], _ => rfl
  | (m, u) :: kvs, h => by
    simp only [List.map_cons, List.contains_cons, Bool.or_eq_false_iff] at h
    have hm : ¬ m = n := fun c => by subst c; simp at h
    unfold putF
    rw [if_neg hm, putF_new h.2]
    rfl
section
variable {K : PySem.W.Frag} {mg : Str → Option Value} {Z H H1 : Hp} {env : En} {σ : L2.St} {fps : Nat → List Addr} {W : WX} {D' : Ends}
theorem Go.ins {i : Nat} {c n : Str} {k : Option Nat → List Str → List D → Fl} (g : Go K mg W Z D' (onIns i c n env k)) : ∃ id fs xs, env[i]? = some (.ow (.ins c id fs xs)) ∧ fs.contains n = false ∧ fs.length < 900 ∧ Go K mg W Z D' (k id fs xs) := by
  unfold onIns at g
  split at g
  · rename_i c' id fs xs h
    split at g
    · rename_i hc
      obtain ⟨rfl, h1, h2⟩ := hc
      exact ⟨id, fs, xs, h, h1, h2, g⟩
    · exact g.elim
  · exact g.elim
/-- an instance that is a slot's own -/
theorem ER.ins (E : ER K mg Z env σ H fps) {i : Nat} {c : Str} {id : Option Nat} {fs : List Str} {xs : List D} (hi : env[i]? = some (.ow (.ins c id fs xs))) : ∃ a C dx kvs f, σ[i]? = some (some (.ref a)) ∧ fps i = a :: f ∧ mg c = some (.ref C) ∧ H a = some (.ins C dx kvs) ∧ kvs.map (·.1) = fs ∧ VAll K mg H xs (kvs.map (·.2)) f ∧ (a :: f).Nodup ∧ ∀ k, id = some k → dx = k ∧ H dx = some (.own a) := by
  obtain ⟨v, h1, h2⟩ := E.val i _ (look_ow hi)
  simp only [Val] at h2
  obtain ⟨a, C, dx, kvs, f, e1, e2, e3, e4, e5, e6, e7⟩ := h2
  subst e1
  exact ⟨a, C, dx, kvs, f, h1, e2, e3, e4, e5, e6, by rw [← e2]; exact (E.own i _ hi).1, e7⟩
/-- it gets a field more -/
theorem st_fld {i : Nat} {c n : Str} {id : Option Nat} {fs : List Str} {xs : List D} {d : D} {a C dx : Addr} {kvs : List (Str × V)} {f fp : List Addr} {y : V} (E : ER K mg Z env σ H fps) (hi : env[i]? = some (.ow (.ins c id fs xs))) (s1 : σ[i]? = some (some (.ref a))) (ef : fps i = a :: f) (hC : mg c = some (.ref C)) (ha : H a = some (.ins C dx kvs)) (hk : kvs.map (·.1) = fs) (hvs : VAll K mg H xs (kvs.map (·.2)) f) (hw : ∀ k, id = some k → dx = k ∧ H dx = some (.own a))
    (e : Sm H H1) (hy : Val K mg H1 d y fp) (nd : fp.Nodup) (hp : ∀ b ∈ fp, H b = none ∧ Mut (H1 b)) : EO K mg Z (env.set i (.ow (.ins c id (fs ++ [n]) (xs ++ [d])))) σ (upd H1 a (.ins C dx (kvs ++ [(n, y)]))) := by
  have n1 := (E.own i _ hi).1
  rw [ef] at n1
  have kp : ∀ {fq}, a ∉ fq → Kp fq H1 (upd H1 a (.ins C dx (kvs ++ [(n, y)]))) := fun hq => Kp.upd hq (fun xs z => by rw [e _ _ ha] at z; cases z) (fun o xs z => by rw [e _ _ ha] at z; cases z) (fun x z => by rw [e _ _ ha] at z; cases z)
  have hap : a ∉ fp := fun z => by have := (hp a z).1; rw [ha] at this; cases this
  refine ⟨_, (E.sm e).mut (a := a) (fp' := a :: (f ++ fp)) hi (by rw [ef]; exact List.mem_cons_self) trivial s1 ?_ ?_ ?_⟩
  · simp only [Val]
    refine ⟨a, C, dx, kvs ++ [(n, y)], f ++ fp, rfl, rfl, hC, upd_same, by simp [hk], ?_, fun k hk => ⟨(hw k hk).1, by
      have hne : dx ≠ a := fun z => by have := (hw k hk).2; rw [z, ha] at this; cases this
      rw [upd_ne hne]; exact e _ _ (hw k hk).2⟩⟩
    rw [List.map_append]
    exact (VAll.kp _ (hvs.sm e) (kp (List.nodup_cons.mp n1).1)).append (VAll.one (Val.kp _ hy (kp hap)))
  · have df : ∀ b ∈ a :: f, b ∉ fp := fun b hb z => by
      obtain ⟨u, _, hu⟩ := E.val i _ (look_ow hi)
      exact hu.gone (by rw [ef]; exact hb) (hp b z).1
    rw [← List.cons_append]
    exact List.nodup_append.mpr ⟨n1, nd, fun b hb c hc z => df b hb (z ▸ hc)⟩
  · intro b hb
    rw [← List.cons_append] at hb
    rcases List.mem_append.mp hb with z | z
    · exact .inl (by rw [ef]; exact z)
    · obtain ⟨q1, q2⟩ := E.new (hp b z).1
      exact .inr ⟨q1, (hp b z).2, q2⟩
end
section
variable {X : Cx} {W : WX} {pos pos' px : Pos} {x c n : Str}
theorem ds_fldF {i : Nat} {e : Expr} {f : En → R D} (h : DF X W e f) (hx : PE X (.Name x px) (tVar i)) (hc : ClsD X.K X.mg c) (hn : FldD X.K X.mg c n) (hs : swapsWith e (some (.Attribute (.Name x px) n pos')) pos.line X.env = pure false := by rfl) :
    DS X W (.Assign [.Attribute (.Name x px) n pos'] e pos) (sFldF i c n f) := ps_weak (ps_fld hx h hs) fun D σ H ⟨Z, env, E, g⟩ => by
  have E' := E
  obtain ⟨fps, E⟩ := E
  obtain ⟨id, fs, xs, hi, h1, h2, g⟩ := Go.ins g
  obtain ⟨a, C, dx, kvs, f0, s1, ef, hC, ha, hk, hvs, nd, hw⟩ := E.ins hi
  obtain ⟨C0, hC0, cl⟩ := hc
  refine ⟨_, env, E.penv, (Go.out E' g).imp fun d g y H1 fp e1 hy hn1 hp => ?_⟩
  refine ⟨_, s1, a, C, dx, kvs, rfl, e1 _ _ ha, ?_, hn _ hC, by rw [← hk] at h2; simp at h2; omega, ?_⟩
  · rw [hC0] at hC; cases hC; exact cl
  · rw [putF_new (by rw [hk]; exact h1)]
    exact g _ _ (st_fld E hi s1 ef hC ha hk hvs hw e1 hy hn1 hp)
theorem ds_fldI {i : Nat} {e : Expr} {f : En → R D} (h : DE X W e f) (hx : PE X (.Name x px) (tVar i)) (hc : ClsD X.K X.mg c) (hn : FldD X.K X.mg c n) (hs : swapsWith e (some (.Attribute (.Name x px) n pos')) pos.line X.env = pure false := by rfl) :
    DS X W (.Assign [.Attribute (.Name x px) n pos'] e pos) (sFldI i c n f) := ps_weak (ps_fld hx h hs) fun D σ H ⟨Z, env, E, g⟩ => by
  have E' := E
  obtain ⟨fps, E⟩ := E
  obtain ⟨id, fs, xs, hi, h1, h2, g⟩ := Go.ins g
  obtain ⟨a, C, dx, kvs, f0, s1, ef, hC, ha, hk, hvs, nd, hw⟩ := E.ins hi
  obtain ⟨C0, hC0, cl⟩ := hc
  refine ⟨_, env, E.penv, (Go.out E' g).imp fun d g y H1 fp e1 hy hp => ?_⟩
  split at g
  · rename_i hm
    have hz := Val.imm d hy hm
    subst hz
    refine ⟨_, s1, a, C, dx, kvs, rfl, e1 _ _ ha, ?_, hn _ hC, by rw [← hk] at h2; simp at h2; omega, ?_⟩
    · rw [hC0] at hC; cases hC; exact cl
    · rw [putF_new (by rw [hk]; exact h1)]
      exact g _ _ (st_fld E hi s1 ef hC ha hk hvs hw e1 hy List.nodup_nil nf)
  · exact g.elim
end
end DL
set_option Elab.async false
set_option linter.all false
set_option maxRecDepth 100000
set_option maxHeartbeats 2000000
namespace DL
open PySem PySem.Spec PyProof.Rows L2
/-! ### tuple(range(..)) -/
def trgF1 : List D → Option D
  | [.int j] => if okRg 0 j = true then some (.tup (rngD 0 j.toNat 1)) else none
  | _ => none
def trgF2 : List D → Option D
  | [.int i, .int j] => if okRg i j = true then some (.tup (rngD i (j - i).toNat 1)) else none
  | _ => none
section
variable {X : Cx} {W : WX}
theorem df_tupRg1 {a : Expr} {p p2 pos pos2 : Pos} {f : En → R D} (h : DE X W a f) (hm : X.mg "tuple" = none) (hm2 : X.mg "range" = none) (hc : X.calm = true := by rfl) (hg : Gl X "tuple" := by rfl) (hg2 : Gl X "range" := by rfl)
    (na : starEach [Expr.Call (.Name "range" p2) [a] [] pos2] X.env = (false, eval (Expr.Call (.Name "range" p2) [a] [] pos2) X.env) :: starEach [] X.env := by rfl) (na2 : starEach [a] X.env = (false, eval a X.env) :: starEach [] X.env := by rfl) :
    DF X W (.Call (.Name "tuple" p) [.Call (.Name "range" p2) [a] [] pos2] [] pos) (eCall trgF1 (eCons f eNil)) :=
  pe_weak (pe_tupRg hc hg hm (prg_1 hg2 hm2 h na2) na) fun σ H Q ⟨S, env, P, q⟩ => by
    have q := q.bind
    refine stE P q fun d v H1 fp e1 hv hp q => ?_
    obtain ⟨r, er, q⟩ := Out.of q
    unfold trgF1 at er
    split at er
    · rename_i j heq
      simp only [List.cons.injEq, and_true] at heq
      subst heq
      split at er
      · rename_i hz
        cases er
        simp only [Val] at hv
        exact ⟨j, hv.1, okRg_iff hz, fun p hp' => q _ _ [] (e1.trans (Sm.new hp')) (val_tup upd_same (by have := vall_rg (K := X.K) (mg := X.mg) (H := upd H1 p (.tup (rgV 0 j))) (i := 0) (j := j); rw [Int.sub_zero] at this; exact this)) (by simp) (by simp)⟩
      · cases er
    · cases er
theorem df_tupRg2 {a b : Expr} {p p2 pos pos2 : Pos} {f g : En → R D} (h : DE X W a f) (h2 : DE X W b g) (hm : X.mg "tuple" = none) (hm2 : X.mg "range" = none) (hc : X.calm = true := by rfl) (hg : Gl X "tuple" := by rfl) (hg2 : Gl X "range" := by rfl)
    (na : starEach [Expr.Call (.Name "range" p2) [a, b] [] pos2] X.env = (false, eval (Expr.Call (.Name "range" p2) [a, b] [] pos2) X.env) :: starEach [] X.env := by rfl) (na2 : starEach [a, b] X.env = (false, eval a X.env) :: starEach [b] X.env := by rfl)
    (na3 : starEach [b] X.env = (false, eval b X.env) :: starEach [] X.env := by rfl) (hp : (backTo pos2 (starEach [b] X.env)).any (·.1) = false := by rfl) :
    DF X W (.Call (.Name "tuple" p) [.Call (.Name "range" p2) [a, b] [] pos2] [] pos) (eCall trgF2 (eCons f (eCons g eNil))) :=
  pe_weak (pe_tupRg hc hg hm (prg_2 hg2 hm2 h h2 na2 na3 hp) na) fun σ H Q ⟨S, env, P, q⟩ => by
    have q := q.bind
    refine stE P q fun d v H1 fp e1 hv hp q => ?_
    have q := q.bind
    refine stE (P.sm e1) q fun d2 v2 H2 fp2 e2 hv2 hp2 q => ?_
    obtain ⟨r, er, q⟩ := Out.of q
    unfold trgF2 at er
    split at er
    · rename_i i j heq
      simp only [List.cons.injEq, and_true] at heq
      obtain ⟨rfl, rfl⟩ := heq
      split at er
      · rename_i hz
        cases er
        simp only [Val] at hv hv2
        exact ⟨i, j, hv.1, hv2.1, okRg_iff hz, fun p hp' => q _ _ [] ((e1.trans e2).trans (Sm.new hp')) (val_tup upd_same vall_rg) (by simp) (by simp)⟩
      · cases er
    · cases er
end
end DL
set_option Elab.async false
set_option linter.all false
set_option maxRecDepth 100000
set_option maxHeartbeats 2000000
namespace DL
open PySem PySem.Spec PyProof.Rows L2
/-! ### slots forgotten or shared from here on -/
/-- 0: forgotten, 1: as it is, 2: shared from here on -/
def mkS : Nat → Sl → Sl
  | 0, _ => .un
  | 1, s => s
  | _, .ow d => .sh d
  | _, s => s
def maskE : List Nat → En → En
  | m :: ms, s :: env => mkS m s :: maskE ms env
  | _, env => env
theorem mkS_val {m : Nat} {s : Sl} {d : D} (h : (mkS m s).val = some d) : s.val = some d := by
  unfold mkS at h
  split at h <;> simp_all [Sl.val]
theorem mkS_ow {m : Nat} {s : Sl} {d : D} (h : mkS m s = .ow d) : s = .ow d := by
  unfold mkS at h
  split at h <;> simp_all
theorem maskE_length : ∀ {ms : List Nat} {env : En}, (maskE ms env).length = env.length
  | [], env => by unfold maskE; rfl
  | m :: ms, [] => by unfold maskE; rfl
  | m :: ms, s :: env => by unfold maskE; simp [maskE_length (ms := ms) (env := env)]
theorem maskE_get : ∀ {ms : List Nat} {env : En} {i : Nat} {s' : Sl}, (maskE ms env)[i]? = some s' → ∃ s m, env[i]? = some s ∧ s' = mkS m s
  | [], env, i, s', h => by unfold maskE at h; exact ⟨s', 1, h, rfl⟩
  | m :: ms, [], i, s', h => by simp [maskE] at h
  | m :: ms, s :: env, 0, s', h => by
    simp only [maskE, List.getElem?_cons_zero, Option.some.injEq] at h
    exact ⟨s, m, rfl, h.symm⟩
  | m :: ms, s :: env, i + 1, s', h => by
    simp only [maskE, List.getElem?_cons_succ] at h
    obtain ⟨u, k, h1, h2⟩ := maskE_get h
    exact ⟨u, k, by simpa using h1, h2⟩
theorem look_mask {ms : List Nat} {env : En} {i : Nat} {d : D} (h : look (maskE ms env) i = some d) : look env i = some d := by
  unfold look at h ⊢
  cases q : (maskE ms env)[i]? with
  | none => rw [q] at h; cases h
  | some s' =>
    obtain ⟨s, m, h1, h2⟩ := maskE_get q
    rw [q] at h
    rw [h1]
    subst h2
    exact mkS_val h
theorem ow_mask {ms : List Nat} {env : En} {i : Nat} {d : D} (h : (maskE ms env)[i]? = some (.ow d)) : env[i]? = some (.ow d) := by
  obtain ⟨s, m, h1, h2⟩ := maskE_get h
  rw [h1, mkS_ow h2.symm]
def Fl.mask (ms : List Nat) : Fl → Fl
  | .nx e => .nx (maskE ms e)
  | .bk e => .bk (maskE ms e)
  | .ct e => .ct (maskE ms e)
  | r => r
def Fl.maskN (ms : List Nat) : Fl → Fl
  | .nx e => .nx (maskE ms e)
  | r => r
def sMask (ms : List Nat) (F : En → Fl) (env : En) : Fl := (F env).mask ms
def sMaskN (ms : List Nat) (F : En → Fl) (env : En) : Fl := (F env).maskN ms
def sPre (ms : List Nat) (F : En → Fl) (env : En) : Fl := F (maskE ms env)
section
variable {K : PySem.W.Frag} {mg : Str → Option Value} {Z H : Hp} {env : En} {σ : L2.St} {fps : Nat → List Addr} {W : WX} {D' : Ends} {ms : List Nat}
theorem ER.mask (E : ER K mg Z env σ H fps) : ER K mg Z (maskE ms env) σ H fps where
  len := by rw [maskE_length]; exact E.len
  val := fun i d h => E.val i d (look_mask h)
  own := fun i d h => by
    obtain ⟨h1, h2, h3⟩ := E.own i d (ow_mask h)
    exact ⟨h1, h2, fun j d' hj hl => h3 j d' hj (look_mask hl)⟩
  keep := E.keep
theorem EO.mask (E : EO K mg Z env σ H) : EO K mg Z (maskE ms env) σ H := let ⟨f, h⟩ := E; ⟨f, h.mask⟩
theorem Go.mask {r : Fl} (g : Go K mg W Z D' (r.mask ms)) : Go K mg W Z D' r := by
  cases r with
  | nx e => exact fun σ' H' E => g σ' H' E.mask
  | rt d => exact g
  | bk e => exact fun σ' H' E => g σ' H' E.mask
  | ct e => exact fun σ' H' E => g σ' H' E.mask
  | ex c e => exact g
  | no => exact g
theorem Go.maskN {r : Fl} (g : Go K mg W Z D' (r.maskN ms)) : Go K mg W Z D' r := by
  cases r with
  | nx e => exact fun σ' H' E => g σ' H' E.mask
  | rt d => exact g
  | bk e => exact g
  | ct e => exact g
  | ex c e => exact g
  | no => exact g
end
section
variable {X : Cx} {W : WX} {ms : List Nat} {b : List Stmt} {st : Stmt} {F : En → Fl}
theorem dss_mask (ms : List Nat) (h : DSs X W b F) : DSs X W b (sMask ms F) := pss_weak h fun D σ H ⟨Z, env, E, g⟩ => ⟨Z, env, E, Go.mask g⟩
theorem ds_maskN (ms : List Nat) (h : DS X W st F) : DS X W st (sMaskN ms F) := ps_weak h fun D σ H ⟨Z, env, E, g⟩ => ⟨Z, env, E, Go.maskN g⟩
theorem ds_pre (ms : List Nat) (h : DS X W st F) : DS X W st (sPre ms F) := ps_weak h fun D σ H ⟨Z, env, E, g⟩ => ⟨Z, _, E.mask, g⟩
end
end DL
set_option Elab.async false
set_option linter.all false
set_option maxRecDepth 100000
set_option maxHeartbeats 2000000
namespace DL
open PySem PySem.Spec PyProof.Rows L2
/-! ### x, y, .. = a, b, ..: new values come to names -/
def setsO : List Nat → List D → En → Option En
  | [], [], env => some env
  | i :: is, d :: ds, env => if i < env.length then setsO is ds (env.set i (.ow d)) else none
  | _, _, _ => none
def sPars (is : List Nat) (f : En → R (List D)) (env : En) : Fl := onE (f env) env fun ds => match setsO is ds env with
  | some e => .nx e
  | none => .no
section
variable {K : PySem.W.Frag} {mg : Str → Option Value} {Z H : Hp}
theorem sets_er : ∀ (is : List Nat) {ds : List D} {env e' : En} {σ : L2.St} {fps : Nat → List Addr} {vs : List V} {fp : List Addr}, setsO is ds env = some e' → ER K mg Z env σ H fps → VAll K mg H ds vs fp → fp.Nodup → (∀ a ∈ fp, Z a = none ∧ Mut (H a)) → (∀ j d', look env j = some d' → ∀ a ∈ fp, a ∉ fps j) →
    ∃ fps', ER K mg Z e' ((is.zip vs).foldl (fun s p => s.set p.1 (some p.2)) σ) H fps' ∧ vs.length = is.length
  | [], ds, env, e', σ, fps, vs, fp, hs, E, hv, n, f, ap => by
    cases ds with
    | nil =>
      simp only [setsO, Option.some.injEq] at hs
      subst hs
      simp only [VAll] at hv
      rw [hv.1]
      exact ⟨fps, E, rfl⟩
    | cons d ds => simp [setsO] at hs
  | i :: is, ds, env, e', σ, fps, vs, fp, hs, E, hv, n, f, ap => by
    cases ds with
    | nil => simp [setsO] at hs
    | cons d ds =>
      simp only [setsO] at hs
      split at hs
      · rename_i hi
        simp only [VAll] at hv
        obtain ⟨v, vr, f1, g1, ev, ef, h1, h2⟩ := hv
        subst ev ef
        obtain ⟨n1, n2, n3⟩ := List.nodup_append.mp n
        have E1 := E.put hi h1 n1 (fun a ha => f a (List.mem_append_left _ ha)) fun j d' _ hl a ha => ap j d' hl a (List.mem_append_left _ ha)
        obtain ⟨fps', E2, hl⟩ := sets_er is hs E1 h2 n2 (fun a ha => f a (List.mem_append_right _ ha)) fun j d' hl a ha z => by
          by_cases c : j = i
          · subst c
            simp only [if_true] at z
            exact n3 a z a ha rfl
          · rw [look_set hi, if_neg c] at hl
            simp only [c, if_false] at z
            exact ap j d' hl a (List.mem_append_right _ ha) z
        exact ⟨fps', E2, by simp [hl]⟩
      · cases hs
end
section
variable {X : Cx} {W : WX} {pos : Pos}
theorem ds_pars2 {i j : Nat} {x y : Str} {a b : Expr} {px py pt : Pos} {kt k2 pt2} {f : En → R (List D)} (ha : DAF X W [a, b] f) (hN : X.N.Nodup) (hi : X.N[i]? = some x := by rfl) (hj : X.N[j]? = some y := by rfl) (hij : i ≠ j := by decide)
    (hx : X.env.scope.names.lookup x = some .local := by rfl) (hy : X.env.scope.names.lookup y = some .local := by rfl)
    (hw : swappedStores [.Tuple [.Name x px, .Name y py] kt pt] (.Tuple [a, b] k2 pt2) X.env = pure (some [x, y]) := by rfl) (hc : X.calm = true := by rfl)
    (hs : swapsWithSole [.Tuple [.Name x px, .Name y py] kt pt] (.Tuple [a, b] k2 pt2) pos.line X.env = pure false := by rfl) :
    DS X W (.Assign [.Tuple [.Name x px, .Name y py] kt pt] (.Tuple [a, b] k2 pt2) pos) (sPars [i, j] f) := ps_weak (ps_par hc hN hi hj hij hx hy ha hw hs) fun D σ H ⟨Z, env, E, g⟩ => by
  have E' := E
  obtain ⟨fps, E⟩ := E
  refine ⟨_, env, E.penv, (Go.out E' g).imp fun ds g vs H' fp e hv hn hp => ?_⟩
  split at g
  · rename_i e1 he1
    obtain ⟨fps', E2, hl⟩ := sets_er [i, j] he1 (E.sm e) hv hn (fun a ha => ⟨E.keep.back (hp a ha).1, (hp a ha).2⟩) fun k d' hl a ha z => by
      obtain ⟨u, _, hu⟩ := E.val k d' hl
      exact hu.gone z (hp a ha).1
    match vs, hl with
    | [v, w], _ => exact ⟨v, w, rfl, g _ _ ⟨_, E2⟩⟩
  · exact g.elim
theorem ds_pars3 {i j l : Nat} {x y z : Str} {a b c : Expr} {px py pz pt : Pos} {kt k2 pt2} {f : En → R (List D)} (ha : DAF X W [a, b, c] f) (hN : X.N.Nodup) (hi : X.N[i]? = some x := by rfl) (hj : X.N[j]? = some y := by rfl) (hl : X.N[l]? = some z := by rfl) (hij : i ≠ j := by decide) (hil : i ≠ l := by decide) (hjl : j ≠ l := by decide)
    (hx : X.env.scope.names.lookup x = some .local := by rfl) (hy : X.env.scope.names.lookup y = some .local := by rfl) (hz : X.env.scope.names.lookup z = some .local := by rfl)
    (hw : swappedStores [.Tuple [.Name x px, .Name y py, .Name z pz] kt pt] (.Tuple [a, b, c] k2 pt2) X.env = pure (some [x, y, z]) := by rfl) (hc : X.calm = true := by rfl)
    (hs : swapsWithSole [.Tuple [.Name x px, .Name y py, .Name z pz] kt pt] (.Tuple [a, b, c] k2 pt2) pos.line X.env = pure false := by rfl) :
    DS X W (.Assign [.Tuple [.Name x px, .Name y py, .Name z pz] kt pt] (.Tuple [a, b, c] k2 pt2) pos) (sPars [i, j, l] f) := ps_weak (ps_par3 (hc := hc) (hN := hN) (hi := hi) (hj := hj) (hl := hl) (hij := hij) (hil := hil) (hjl := hjl) (hx := hx) (hy := hy) (hz := hz) (ha := ha) (hw := hw) (hs := hs)) fun D σ H ⟨Z, env, E, g⟩ => by
  have E' := E
  obtain ⟨fps, E⟩ := E
  refine ⟨_, env, E.penv, (Go.out E' g).imp fun ds g vs H' fp e hv hn hp => ?_⟩
  split at g
  · rename_i e1 he1
    obtain ⟨fps', E2, hl⟩ := sets_er [i, j, l] he1 (E.sm e) hv hn (fun a ha => ⟨E.keep.back (hp a ha).1, (hp a ha).2⟩) fun k d' hl a ha z => by
      obtain ⟨u, _, hu⟩ := E.val k d' hl
      exact hu.gone z (hp a ha).1
    match vs, hl with
    | [v, w, u], _ => exact ⟨v, w, u, rfl, g _ _ ⟨_, E2⟩⟩
  · exact g.elim
/-- names of which some are cells -/
theorem gsets {K : PySem.W.Frag} {H : Hp} : ∀ (is : List Nat) {vs : List V} {σ : L2.St} {Q : L2.St → Hp → Prop}, vs.length = is.length → Q ((is.zip vs).foldl (fun s p => s.set p.1 (some p.2)) σ) H → tgHs K (is.map .nm) vs σ H Q
  | [], [], σ, Q, _, q => by simp only [List.map_nil, tgHs, gNil]; exact ⟨trivial, q⟩
  | i :: is, v :: vs, σ, Q, hl, q => by
    simp only [List.map_cons, tgHs, gCons]
    refine ⟨v, vs, rfl, ?_⟩
    simp only [tgH, gName]
    exact gsets is (by simpa using hl) q
theorem ds_parsO {is : List Nat} {es : List Expr} {k2 : Nat} {tg : Expr} {p2 : Pos} {f : En → R (List D)} (ha : DAF X W es f) (hg : DG X tg (.tp (is.map .nm))) (hs : swapsWithSole [tg] (.Tuple es k2 p2) pos.line X.env = pure false := by rfl) (hw : swappedStores [tg] (.Tuple es k2 p2) X.env = pure none := by rfl)
    (h1 : (assignEach [tg] X.env).map (·.2) = [assign tg X.env] := by rfl) (hi : Nat.ble is.length 100 = true := by rfl) : DS X W (.Assign [tg] (.Tuple es k2 p2) pos) (sPars is f) := by
  refine ps_weak (ps_asg (pe_tup ha) hg hs hw h1) fun D σ H ⟨Z, env, E, g⟩ => ?_
  have E' := E
  obtain ⟨fps, E⟩ := E
  refine ⟨_, env, E.penv, (Go.out E' g).imp fun ds g vs H' fp e hv hn hp => ?_⟩
  split at g
  · rename_i e1 he1
    obtain ⟨fps', E2, hl⟩ := sets_er is he1 (E.sm e) hv hn (fun a ha => ⟨E.keep.back (hp a ha).1, (hp a ha).2⟩) fun k d' hl a ha z => by
      obtain ⟨u, _, hu⟩ := E.val k d' hl
      exact hu.gone z (hp a ha).1
    refine ⟨by rw [hl, sizeLine_val]; have := Nat.le_of_ble_eq_true hi; omega, fun p hpn => ?_⟩
    simp only [tgH]
    refine ⟨p, vs, rfl, .inr (.inl (.inl upd_same)), by simp [hl], gsets is hl (g _ _ ⟨_, E2.sm (Sm.new hpn)⟩)⟩
  · exact g.elim
end
end DL
set_option Elab.async false
set_option linter.all false
set_option maxRecDepth 100000
set_option maxHeartbeats 2000000
namespace DL
open PySem PySem.Spec PyProof.Rows L2
/-! ### making an instance -/
/-- the slots as __init__ begins: an instance without fields, its dict at i -/
def startI (c : Str) (m i : Nat) (ds : List D) : En := .ow (.ins c (some i) [] []) :: (ds.map .sh ++ List.replicate (m - (ds.length + 1)) .un)
/-- what __init__ leads to, wherever the instance lies -/
def InitOK (c : Str) (n m : Nat) (G : En → Fl) (ds : List D) (r : R D) : Prop := ds.length = n ∧ ∀ i, match r with
  | .ok (.ins c' id fs xs) => c' = c ∧ id = none ∧ ∃ e, G (startI c m i ds) = .nx e ∧ e[0]? = some (.ow (.ins c (some i) fs xs))
  | .ex x => ∃ e, G (startI c m i ds) = .ex x e
  | _ => False
open Classical in
noncomputable def mkF (c : Str) (n m : Nat) (G : En → Fl) : List D → R D := fun ds => if h : ∃ r, InitOK c n m G ds r then h.choose else .no
theorem init_one {c : Str} {n m : Nat} {G : En → Fl} {ds : List D} {r r' : R D} (h : InitOK c n m G ds r) (h' : InitOK c n m G ds r') : r = r' := by
  have a := h.2 0
  have b := h'.2 0
  match r, a, r', b with
  | .ok (.ins c1 i1 f1 x1), ⟨a1, a2, e, a3, a4⟩, .ok (.ins c2 i2 f2 x2), ⟨b1, b2, e', b3, b4⟩ =>
    rw [a3] at b3; cases b3
    rw [a4] at b4; cases b4
    rw [a1, a2, b1, b2]
  | .ok (.ins c1 i1 f1 x1), ⟨a1, a2, e, a3, a4⟩, .ex x, ⟨e', b3⟩ => rw [a3] at b3; cases b3
  | .ex x, ⟨e, a3⟩, .ok (.ins c2 i2 f2 x2), ⟨b1, b2, e', b3, b4⟩ => rw [a3] at b3; cases b3
  | .ex x, ⟨e, a3⟩, .ex y, ⟨e', b3⟩ => rw [a3] at b3; cases b3; rfl
theorem mkF_eq {c : Str} {n m : Nat} {G : En → Fl} {ds : List D} {r : R D} (h : InitOK c n m G ds r) : mkF c n m G ds = r := by
  have w : ∃ r, InitOK c n m G ds r := ⟨r, h⟩
  unfold mkF
  rw [dif_pos w]
  exact init_one w.choose_spec h
theorem mkF_some {c : Str} {n m : Nat} {G : En → Fl} {ds : List D} (h : mkF c n m G ds ≠ .no) : InitOK c n m G ds (mkF c n m G ds) := by
  unfold mkF at h ⊢
  split at h
  · rename_i w; rw [dif_pos w]; exact w.choose_spec
  · exact absurd rfl h
/-- the promise of __init__ -/
def spI (K : PySem.W.Frag) (mg : Str → Option Value) (c : Str) (n : Nat) (F : List D → R D) : Sp := fun vs H Q E => vs.length = n + 1 ∧ ∃ x dx C us ds fp H0, vs = .ref x :: us ∧ mg c = some (.ref C) ∧ H = upd (upd H0 dx (.own x)) x (.ins C dx []) ∧ H0 x = none ∧ H0 dx = none ∧ dx ≠ x ∧ VAll K mg H0 ds us fp ∧
  Out mg (fun cls d _ H => E cls d H) [] H0 (F ds) fun d => ∀ H' f', Sm H0 H' → Val K mg H' d (.ref x) f' → f'.Nodup → (∀ a ∈ f', H0 a = none ∧ Mut (H' a)) → Q .non H'
section
variable {P : Program} {w : World} {K : PySem.W.Frag} {mg : Str → Option Value} {base : Heap}
theorem startI_eo {H0 : Hp} {x dx C : Addr} {c : Str} {ds : List D} {us : List V} {fp : List Addr} {N : List Str} (hC : mg c = some (.ref C)) (h1 : H0 x = none) (h2 : H0 dx = none) (h3 : dx ≠ x) (h : VAll K mg H0 ds us fp) :
    EO K mg (upd H0 dx (.own x)) (startI c N.length dx ds) (start N (.ref x :: us)) (upd (upd H0 dx (.own x)) x (.ins C dx [])) := by
  obtain ⟨fps, q⟩ := h.fps
  have hl := h.length
  have sm1 : Sm H0 (upd H0 dx (.own x)) := Sm.new h2
  have hx : (upd H0 dx (.own x)) x = none := by rw [upd_ne h3.symm]; exact h1
  have sm2 : Sm (upd H0 dx (.own x)) (upd (upd H0 dx (.own x)) x (.ins C dx [])) := Sm.new hx
  have row : ∀ i d, look (ds.map Sl.sh ++ List.replicate (N.length - (ds.length + 1)) .un) i = some d → ds[i]? = some d := fun i d hd => by
    unfold look at hd
    by_cases c : i < ds.length
    · rw [List.getElem?_append_left (by simpa using c), List.getElem?_map, List.getElem?_eq_getElem c] at hd
      simp only [Option.map_some, Option.bind_some, Sl.val, Option.some.injEq] at hd
      rw [List.getElem?_eq_getElem c, hd]
    · rw [List.getElem?_append_right (by simpa using c), List.getElem?_replicate] at hd
      split at hd <;> simp [Sl.val] at hd
  refine ⟨fun i => match i with | 0 => [x] | i + 1 => fps i, ?_, fun i d hd => ?_, fun i d hd => ?_, sm2⟩
  · simp [startI, L2.start, hl]
  · cases i with
    | zero =>
      have e : d = .ins c (some dx) [] [] := (Option.some.inj hd).symm
      subst e
      refine ⟨.ref x, rfl, ?_⟩
      simp only [Val]
      exact ⟨x, C, dx, [], [], rfl, rfl, hC, upd_same, rfl, by simp [VAll], fun i hi => by cases hi; exact ⟨rfl, by rw [upd_ne h3, upd_same]⟩⟩
    | succ i =>
      have hd' := row i d hd
      obtain ⟨v, q1, q2⟩ := q i d hd'
      refine ⟨v, ?_, (q2.sm sm1).sm sm2⟩
      have hi := (List.getElem?_eq_some_iff.mp q1).1
      show ((V.ref x :: us).map some ++ _)[i + 1]? = _
      simp only [List.map_cons, List.cons_append, List.getElem?_cons_succ]
      rw [List.getElem?_append_left (by simpa using hi), List.getElem?_map, q1]; rfl
  · cases i with
    | zero =>
      refine ⟨by simp, fun a ha => ?_, fun j d' hj hl' a ha => ?_⟩
      · simp only [List.mem_singleton] at ha
        subst ha
        exact ⟨hx, by rw [upd_same]; trivial⟩
      · simp only [List.mem_singleton] at ha
        subst ha
        cases j with
        | zero => exact absurd rfl hj
        | succ j =>
          obtain ⟨v, q1, q2⟩ := q j d' (row j d' hl')
          exact fun z => q2.gone z h1
    | succ i =>
      exfalso
      simp only [startI, List.getElem?_cons_succ] at hd
      by_cases c : i < ds.length
      · rw [List.getElem?_append_left (by simpa using c), List.getElem?_map, List.getElem?_eq_getElem c] at hd
        cases hd
      · rw [List.getElem?_append_right (by simpa using c), List.getElem?_replicate] at hd
        split at hd <;> cases hd
theorem okI {c qual : Str} {st : Stmt} {f : Addr} {fd : FuncData} {N ps : List Str} {k n : Nat} {G : En → Fl} (F : Fun K "__init__" qual st f fd) (S : FnScope N ps (defScope st)) (hn : ps.length = n + 1)
    (body : ∀ (cdv : Value) (A : Around) (outer : List Env) (s : Shared) (H : Hp) (E : XK), Room k (A.deeper (envOfC qual (defScope st) s.heap.objs.size f cdv)) → Takes (cxOf (L2.CX P w) P w K mg base N qual (defScope st) f cdv A outer s H E) (fun cls d _ H => E cls d H) →
      DSs (cxOf (L2.CX P w) P w K mg base N qual (defScope st) f cdv A outer s H E) (fun cls d _ H => E cls d H) (defBody st) G) :
    FnOk P w K mg base (L2.CX P w) (k + 1) f fd ps (spI K mg c n (mkF c n N.length G)) := by
  refine F.okX S (fun vs H Q E h => by rw [h.1, hn]) fun cdv A outer s H vs Q E hr h => ⟨_, body cdv A outer s H E hr (takes_of rfl rfl rfl rfl), ?_⟩
  obtain ⟨hl, x, dx, C, us, ds, fp, H0, rfl, hC, rfl, h1, h2, h3, hv, q⟩ := h
  have hx : (upd H0 dx (.own x)) x = none := by rw [upd_ne h3.symm]; exact h1
  refine ⟨upd H0 dx (.own x), _, startI_eo (N := N) hC h1 h2 h3 hv, ?_⟩
  have ne : mkF c n N.length G ds ≠ .no := fun z => by rw [z] at q; exact q
  have ok := (mkF_some ne).2 dx
  cases r : mkF c n N.length G ds with
  | no => exact absurd r ne
  | ex y =>
    rw [r] at q ok
    obtain ⟨e, he⟩ := ok
    rw [he]
    exact fun C' σ' H' m E' => q C' H' m ((Sm.new h2).trans (let ⟨_, z⟩ := E'; z.keep))
  | ok d =>
    rw [r] at q ok
    cases d with
    | ins c' id fs xs =>
      obtain ⟨rfl, rfl, e, he, h0⟩ := ok
      rw [he]
      intro σ' H' E'
      obtain ⟨g, E'⟩ := E'
      obtain ⟨v, q1, q2⟩ := E'.val 0 _ (look_ow h0)
      obtain ⟨o1, o2, _⟩ := E'.own 0 _ h0
      simp only [Val] at q2
      obtain ⟨a, C', dx', kvs, f', ev, ef, hm, ha, hk, hvs, hw⟩ := q2
      obtain ⟨w1, w2⟩ := hw dx rfl
      subst w1
      have w3 : H' dx' = some (.own x) := E'.keep dx' _ upd_same
      rw [w2] at w3
      cases w3
      refine q H' (g 0) ((Sm.new h2).trans E'.keep) ?_ o1 fun b hb => ⟨?_, (o2 b hb).2⟩
      · simp only [Val]
        exact ⟨_, C', dx', kvs, f', rfl, ef, hm, ha, hk, hvs, fun i hi => nomatch hi⟩
      · exact (Sm.new h2).back (o2 b hb).1
    | _ => exact ok.elim
/-- a class whose instances F makes -/
def MakeD (P : Program) (w : World) (K : PySem.W.Frag) (mg : Str → Option Value) (base : Heap) (k n : Nat) (c : Str) (F : List D → R D) : Prop :=
  ∃ C f fd ps, mg c = some (.ref C) ∧ Mk K C f ∧ Binds K fd ps [] ∧ FnOk P w K mg base (L2.CX P w) k f fd ps (spI K mg c n F)
end
section
variable {X : Cx} {W : WX} {k n j : Nat} {F : List D → R D} {c : Str} {p pos : Pos} {e : Expr} {es : List Expr} {g : En → R (List D)}
/-- a class called, what is raised wished for at the caller's slots -/
theorem make_at {k : Nat} {f C : Addr} {fd : FuncData} {ps : List Str} {sp : Sp} {E : XK} {pins : List (Addr × Obj)} {σ : L2.St} {H : Hp} {s : Shared} {Q : VK} {us : List Value} {vs : List V} (M : Mk X.K C f) (F : FnOk X.prog X.w X.K X.mg X.base (L2.CX X.prog X.w) k f fd ps sp) (hr : Room (k + 1) X.A) (hb : Binds X.K fd ps [])
    (hx : PassesAt (L2.CX X.prog X.w) X σ E) (I : Inv X pins σ H s) (r : Vals vs us) (h : ∀ x dx, H x = none → H dx = none → dx ≠ x → sp (.ref x :: vs) (upd (upd H dx (.own x)) x (.ins C dx [])) (fun v H2 => v = .non ∧ Q (.ref x) H2) E) :
    wpAny (model X.prog X.w) X.A (call (.ref C) us) (EP X pins σ Q) X.xe s := by
  let n0 := s.heap.objs.size
  have want := h (n0 + 1) n0 (I.hok.fresh (Nat.le_succ n0)) (I.hok.fresh (Nat.le_refl n0)) (Nat.ne_of_lt (Nat.lt_succ_self n0))
  have J := Inv.made (C := C) I
  have rr : Vals (V.ref (n0 + 1) :: vs) (Value.ref (n0 + 1) :: us) := .cons rfl r
  have len : (Value.ref (n0 + 1) :: us).length = ps.length := rr.length.symm.trans (F.len _ _ _ _ want)
  have bnd := hb _ (Value.ref (n0 + 1) :: us) J.kIn (by rw [List.append_nil]; exact len)
  rw [List.append_nil] at bnd
  refine wpAny_call (make_map (f := f) I.kIn M.makes M.init (beq_iff_eq.mp M.fn) (codeAny_mono (F.run _ X.stack _ _ ⟨Value.ref (n0 + 1) :: us, []⟩ _ _ _ E (hr.make C us []) (J.env0.make C us []) bnd rr want) ?_))
  intro out s' got
  match out with
  | .error x => exact hx pins _ _ x s' J got
  | .ok (.ret u) =>
    obtain ⟨v, H', I3, rv, ev, q3⟩ := J.after got
    rw [ev] at rv
    exact ⟨rv, ⟨V.ref (n0 + 1), H', I3, rfl, q3⟩⟩
  | .ok .next => exact (show False from got).elim
  | .ok .brk => exact (show False from got).elim
  | .ok .cont => exact (show False from got).elim
theorem df_make (G : MakeD X.prog X.w X.K X.mg X.base k n c F) (hr : Room j X.A) (hk : k + 1 ≤ j) (tk : Takes X W) (ha : DA X W (e :: es) g) (hg : Gl X c := by rfl) (hdb : (c == ("__debug__" : Str)) = false := by decide)
    (he : starEach (e :: es) X.env = (false, eval e X.env) :: starEach es X.env := by rfl) (hpl : (backTo pos (starEach es X.env)).any (·.1) = false := by rfl) : DF X W (.Call (.Name c p) (e :: es) [] pos) (eCallF n F g) := by
  obtain ⟨C0, f0, fd, ps, hC, M, hb, fn⟩ := G
  refine ⟨fun pins s σ H Q I ⟨S, env, P, q⟩ => ?_⟩
  have q1 : tA X.K X.mg W g σ H (fun vs H1 => ∀ x dx, H1 x = none → H1 dx = none → dx ≠ x → spI X.K X.mg c n F (.ref x :: vs) (upd (upd H1 dx (.own x)) x (.ins C0 dx [])) (fun v H2 => v = .non ∧ Q (.ref x) H2) (WE W σ)) := by
    refine stA P q fun ds vs H1 fp e1 hv hp q => ?_
    split at q
    · rename_i hl
      intro x dx h1 h2 h3
      refine ⟨by rw [List.length_cons, hv.length, hl], x, dx, C0, vs, ds, fp, H1, rfl, hC, rfl, h1, h2, h3, hv, ?_⟩
      cases r : F ds with
      | ok d => rw [r] at q; exact fun H' f' e' hv' hn' hp' => ⟨rfl, q _ H' f' (e1.trans e') hv' hn' fun a ha => ⟨e1.back (hp' a ha).1, (hp' a ha).2⟩⟩
      | ex y => rw [r] at q; exact fun C H' m e' => q C H' m e'
      | no => rw [r] at q; exact q
    · exact q.elim
  refine wpAny_Call_Name_kw (ld_glob I hg hC ?_ hdb)
  refine PySem.W.callWith_K (h₀ := X.base) I.ok.mod.kin M.kp (thn (ha.run pos pins s σ H _ I q1) fun us s1 ⟨vs, H1, I1, r, q2⟩ => ⟨I1.kIn, ?_⟩) he hpl
  exact make_at (E := WE W σ) M fn (hr.mono hk) hb (passAt tk σ) I1 r q2
end
end DL
set_option Elab.async false
set_option linter.all false
set_option maxRecDepth 100000
set_option maxHeartbeats 2000000
namespace DL
open PySem PySem.Spec PyProof.Rows L2
/-! ### a place within an own value -/
inductive Stp where
  | f (n : Str) | i (k : Int) | d (k : Key) | t (k : List Key)
def posL {κ : Type} [DecidableEq κ] : List κ → κ → Option Nat
  | [], _ => none
  | k' :: ks, k => if k' = k then some 0 else (posL ks k).map (· + 1)
def posS : Stp → D → Option Nat
  | .f n, .ins _ _ fs _ => posL fs n
  | .i k, .lst xs => L2.ixN xs.length k
  | .d k, .dk ks _ => posL ks k
  | .t k, .dt ks _ => posL ks k
  | _, _ => none
def kids : D → List D
  | .ins _ _ _ xs => xs
  | .lst xs => xs
  | .dk _ xs => xs
  | .dt _ xs => xs
  | _ => []
def withK : D → List D → D
  | .ins c i fs _, xs => .ins c i fs xs
  | .lst _, xs => .lst xs
  | .dk ks _, xs => .dk ks xs
  | .dt ks _, xs => .dt ks xs
  | d, _ => d
def getP : List Stp → D → Option D
  | [], d => some d
  | s :: r, d => (posS s d).bind fun p => ((kids d)[p]?).bind (getP r)
def setP : List Stp → D → D → D
  | [], e, _ => e
  | s :: r, e, d => match posS s d with
    | some p => match (kids d)[p]? with
      | some c => withK d ((kids d).set p (setP r e c))
      | none => d
    | none => d
def StepV (H : Hp) (a : Addr) : Stp → V → Prop
  | .f n, u => ∃ C dx fs, H a = some (.ins C dx fs) ∧ fs.lookup n = some u
  | .i k, u => ∃ vs, H a = some (.lst vs) ∧ L2.atI vs k = some u
  | .d k, u => ∃ kvs, Rd H a (.dK kvs) ∧ valV kvs k = some u
  | .t k, u => ∃ kvs, Rd H a (.dT kvs) ∧ valV kvs k = some u
def AtV (H : Hp) : V → List Stp → V → Prop
  | v, [], v' => v = v'
  | v, s :: r, v' => ∃ a u, v = .ref a ∧ StepV H a s u ∧ AtV H u r v'
theorem rd_one {H : Hp} {a : Addr} {u w : HO} (hu : ∀ o x, u ≠ .frz o x) (hw : ∀ o x, w ≠ .frz o x) (h : Rd H a u) (h' : Rd H a w) : u = w := by
  rcases h with h | ⟨o, h⟩ <;> rcases h' with h' | ⟨o', h'⟩ <;> rw [h] at h' <;> cases h'
  · rfl
  · exact absurd rfl (hu _ _)
  · exact absurd rfl (hw _ _)
  · rfl
theorem StepV.one {H : Hp} {a : Addr} {s : Stp} {u w : V} (h : StepV H a s u) (h' : StepV H a s w) : u = w := by
  cases s with
  | f n => obtain ⟨C, dx, fs, h1, h2⟩ := h; obtain ⟨C', dx', fs', h3, h4⟩ := h'; rw [h1] at h3; cases h3; rw [h2] at h4; exact Option.some.inj h4
  | i k => obtain ⟨vs, h1, h2⟩ := h; obtain ⟨vs', h3, h4⟩ := h'; rw [h1] at h3; cases h3; rw [h2] at h4; exact Option.some.inj h4
  | d k =>
    obtain ⟨vs, h1, h2⟩ := h; obtain ⟨vs', h3, h4⟩ := h'
    have := rd_one (fun _ _ z => by cases z) (fun _ _ z => by cases z) h1 h3
    cases this; rw [h2] at h4; exact Option.some.inj h4
  | t k =>
    obtain ⟨vs, h1, h2⟩ := h; obtain ⟨vs', h3, h4⟩ := h'
    have := rd_one (fun _ _ z => by cases z) (fun _ _ z => by cases z) h1 h3
    cases this; rw [h2] at h4; exact Option.some.inj h4
theorem AtV.one {H : Hp} : ∀ {p : List Stp} {v u w : V}, AtV H v p u → AtV H v p w → u = w
  | [], v, u, w, h, h' => by simp only [AtV] at h h'; rw [← h, h']
  | s :: r, v, u, w, h, h' => by
    simp only [AtV] at h h'
    obtain ⟨a, x, e, h1, h2⟩ := h
    obtain ⟨a', x', e', h3, h4⟩ := h'
    rw [e] at e'; cases e'
    have := h1.one h3
    subst this
    exact h2.one h4
theorem StepV.sm {H H' : Hp} {a : Addr} {s : Stp} {u : V} (h : StepV H a s u) (e : Sm H H') : StepV H' a s u := by
  cases s with
  | f n => obtain ⟨C, dx, fs, h1, h2⟩ := h; exact ⟨C, dx, fs, e _ _ h1, h2⟩
  | i k => obtain ⟨vs, h1, h2⟩ := h; exact ⟨vs, e _ _ h1, h2⟩
  | d k => obtain ⟨vs, h1, h2⟩ := h; exact ⟨vs, e.rd h1, h2⟩
  | t k => obtain ⟨vs, h1, h2⟩ := h; exact ⟨vs, e.rd h1, h2⟩
theorem AtV.sm {H H' : Hp} (e : Sm H H') : ∀ {p : List Stp} {v u : V}, AtV H v p u → AtV H' v p u
  | [], v, u, h => h
  | s :: r, v, u, h => by
    simp only [AtV] at h ⊢
    obtain ⟨a, x, q, h1, h2⟩ := h
    exact ⟨a, x, q, h1.sm e, h2.sm e⟩
theorem AtV.snoc {H : Hp} {s : Stp} {u : V} {a : Addr} (h2 : StepV H a s u) : ∀ {p : List Stp} {v : V}, AtV H v p (.ref a) → AtV H v (p ++ [s]) u
  | [], v, h => by simp only [AtV] at h; subst h; exact ⟨a, u, rfl, h2, rfl⟩
  | q :: r, v, h => by
    simp only [AtV, List.cons_append] at h ⊢
    obtain ⟨b, x, e, h3, h4⟩ := h
    exact ⟨b, x, e, h3, h4.snoc h2⟩
theorem set_at {α : Type} {xs : List α} {p : Nat} {u : α} (h : xs[p]? = some u) : xs.set p u = xs := by
  obtain ⟨hp, e⟩ := List.getElem?_eq_some_iff.mp h
  rw [← e]; exact List.set_getElem_self hp
theorem pos_lookup {n : Str} : ∀ {fs : List (Str × V)} {p : Nat}, posL (fs.map (·.1)) n = some p → fs.lookup n = (fs.map (·.2))[p]?
  | [], p, h => by simp [posL] at h
  | (m, u) :: fs, p, h => by
    simp only [List.map_cons, posL] at h
    split at h
    · rename_i c; cases h; subst c; simp [List.lookup]
    · rename_i c
      obtain ⟨q, hq, rfl⟩ := Option.map_eq_some_iff.mp h
      have : (n == m) = false := by rw [beq_eq_false_iff_ne]; exact Ne.symm c
      simp only [List.lookup, this, List.map_cons, List.getElem?_cons_succ]
      exact pos_lookup hq
theorem pos_valV {κ : Type} [DecidableEq κ] {k : κ} : ∀ {kvs : List (κ × V)} {p : Nat}, posL (kvs.map (·.1)) k = some p → valV kvs k = (kvs.map (·.2))[p]?
  | [], p, h => by simp [posL] at h
  | (m, u) :: kvs, p, h => by
    simp only [List.map_cons, posL] at h
    split at h
    · rename_i c; cases h; subst c; simp [valV]
    · rename_i c
      obtain ⟨q, hq, rfl⟩ := Option.map_eq_some_iff.mp h
      rw [valV_neg c]
      simp only [List.map_cons, List.getElem?_cons_succ]
      exact pos_valV hq
section
variable {K : PySem.W.Frag} {mg : Str → Option Value} {H : Hp}
theorem VAll.focus : ∀ {ds : List D} {vs : List V} {fp : List Addr} {p : Nat} {c : D}, VAll K mg H ds vs fp → ds[p]? = some c → ∃ u f1 f f2, vs[p]? = some u ∧ fp = f1 ++ f ++ f2 ∧ Val K mg H c u f ∧
    ∀ {H2 : Hp} {e' : D} {u' : V} {f' : List Addr}, Val K mg H2 e' u' f' → Kp (f1 ++ f2) H H2 → VAll K mg H2 (ds.set p e') (vs.set p u') (f1 ++ f' ++ f2)
  | [], vs, fp, p, c, h, e => by simp at e
  | d :: ds, vs, fp, p, c, h, e => by
    simp only [VAll] at h
    obtain ⟨v, vr, f, g, ev, ef, h1, h2⟩ := h
    subst ev ef
    cases p with
    | zero =>
      have : d = c := by simpa using e
      subst this
      refine ⟨v, [], f, g, rfl, by simp, h1, fun {H2 e' u' f'} q k => ?_⟩
      simp only [List.set_cons_zero, List.nil_append]
      exact .cons q (VAll.kp _ h2 (k.sub fun a ha => by simpa using ha))
    | succ p =>
      obtain ⟨u, f1, fm, f2, q1, q2, q3, q4⟩ := VAll.focus (p := p) (c := c) h2 (by simpa using e)
      subst q2
      refine ⟨u, f ++ f1, fm, f2, by simpa using q1, by simp [List.append_assoc], q3, fun {H2 e' u' f'} q k => ?_⟩
      simp only [List.set_cons_succ]
      have r := q4 q (k.sub fun a ha => by
        rcases List.mem_append.mp ha with z | z
        · simp [z]
        · simp [z])
      have l := Val.kp _ h1 (k.sub (f := f) fun a ha => by simp [ha])
      have := VAll.cons l r
      simpa [List.append_assoc] using this
theorem focus : ∀ (p : List Stp) {d d' : D} {v : V} {fp : List Addr}, Val K mg H d v fp → getP p d = some d' → ∃ v' f1 f f2, AtV H v p v' ∧ fp = f1 ++ f ++ f2 ∧ Val K mg H d' v' f ∧
    ∀ {H2 : Hp} {e' : D} {f' : List Addr}, Val K mg H2 e' v' f' → Kp (f1 ++ f2) H H2 → Val K mg H2 (setP p e' d) v (f1 ++ f' ++ f2)
  | [], d, d', v, fp, h, e => by
    simp only [getP, Option.some.injEq] at e
    subst e
    exact ⟨v, [], fp, [], rfl, by simp, h, fun {H2 e' f'} q _ => by simpa [setP] using q⟩
  | s :: r, d, d', v, fp, h, e => by
    simp only [getP] at e
    cases hp : posS s d with
    | none => rw [hp] at e; cases e
    | some p =>
      rw [hp] at e
      simp only [Option.bind_some] at e
      cases hk : (kids d)[p]? with
      | none => rw [hk] at e; cases e
      | some c =>
        rw [hk] at e
        simp only [Option.bind_some] at e
        have es : ∀ e', setP (s :: r) e' d = withK d ((kids d).set p (setP r e' c)) := fun e' => by simp only [setP, hp, hk]
        -- all kinds alike: a the object's address, its kids' values vs
        have go : ∀ (a : Addr) (vs : List V) (g : List Addr), v = .ref a → fp = a :: g → VAll K mg H (kids d) vs g → (∀ u, vs[p]? = some u → StepV H a s u) →
            (∀ {H2 : Hp} {ds' : List D} {g' : List Addr}, Kp [a] H H2 → VAll K mg H2 ds' vs g' → Val K mg H2 (withK d ds') v (a :: g')) →
            ∃ v' f1 f f2, AtV H v (s :: r) v' ∧ fp = f1 ++ f ++ f2 ∧ Val K mg H d' v' f ∧ ∀ {H2 : Hp} {e' : D} {f' : List Addr}, Val K mg H2 e' v' f' → Kp (f1 ++ f2) H H2 → Val K mg H2 (setP (s :: r) e' d) v (f1 ++ f' ++ f2) := by
          intro a vs g ev ef hv hst hw
          obtain ⟨u, f1, f, f2, q1, q2, q3, q4⟩ := hv.focus hk
          obtain ⟨v', g1, g0, g2, w1, w2, w3, w4⟩ := focus r q3 e
          refine ⟨v', a :: (f1 ++ g1), g0, g2 ++ f2, ⟨a, u, ev, hst u q1, w1⟩, by rw [ef, q2, w2]; simp [List.append_assoc], w3, fun {H2 e' f'} q k => ?_⟩
          rw [es]
          have r1 := w4 q (k.sub fun b hb => by
            rcases List.mem_append.mp hb with z | z <;> simp [z])
          have r2 := q4 r1 (k.sub fun b hb => by
            rcases List.mem_append.mp hb with z | z <;> simp [z])
          rw [set_at q1] at r2
          have r3 := hw (k.sub fun b hb => by simp at hb; simp [hb]) r2
          simpa [List.append_assoc] using r3
        cases d with
        | ins cn id fs ds =>
          simp only [Val] at h
          obtain ⟨a, C, dx, kvs, g, ev, ef, hm, ha, hks, hv, hw⟩ := h
          cases s <;> simp only [posS, reduceCtorEq] at hp
          rename_i n
          refine go a _ g ev ef hv (fun u hu => ⟨C, dx, kvs, ha, ?_⟩) fun {H2 ds' g'} k hv' => ?_
          · subst hks; rw [pos_lookup hp]; exact hu
          · simp only [withK, Val]
            exact ⟨a, C, dx, kvs, g', ev, rfl, hm, k.ins _ _ _ _ (by simp) ha, hks, hv', fun i hi => ⟨(hw i hi).1, k.own _ _ (hw i hi).2⟩⟩
        | lst ds =>
          simp only [Val] at h
          obtain ⟨a, vs, g, ev, ef, ha, hv⟩ := h
          cases s <;> simp only [posS, reduceCtorEq] at hp
          refine go a vs g ev ef hv (fun u hu => ⟨vs, ha, ?_⟩) fun {H2 ds' g'} k hv' => ?_
          · unfold L2.atI; rw [hv.length]; show (L2.ixN ds.length _).bind _ = _; rw [hp]; exact hu
          · simp only [withK, Val]
            exact ⟨a, vs, g', ev, rfl, k.lst _ _ (by simp) ha, hv'⟩
        | dk ks ds =>
          simp only [Val] at h
          obtain ⟨a, kvs, g, ev, ef, ha, hks, hv⟩ := h
          cases s <;> simp only [posS, reduceCtorEq] at hp
          refine go a _ g ev ef hv (fun u hu => ⟨kvs, ha, ?_⟩) fun {H2 ds' g'} k hv' => ?_
          · subst hks; rw [pos_valV hp]; exact hu
          · simp only [withK, Val]
            exact ⟨a, kvs, g', ev, rfl, k.rd _ _ (by simp) ha, hks, hv'⟩
        | dt ks ds =>
          simp only [Val] at h
          obtain ⟨a, kvs, g, ev, ef, ha, hks, hv⟩ := h
          cases s <;> simp only [posS, reduceCtorEq] at hp
          refine go a _ g ev ef hv (fun u hu => ⟨kvs, ha, ?_⟩) fun {H2 ds' g'} k hv' => ?_
          · subst hks; rw [pos_valV hp]; exact hu
          · simp only [withK, Val]
            exact ⟨a, kvs, g', ev, rfl, k.rd _ _ (by simp) ha, hks, hv'⟩
        | _ => simp [kids] at hk
end
section
variable {K : PySem.W.Frag} {mg : Str → Option Value} {Z H : Hp} {env : En} {σ : L2.St} {fps : Nat → List Addr}
/-- the object at a place within slot i's own value is written -/
theorem ER.mutP (E : ER K mg Z env σ H fps) {i : Nat} {d d' : D} {p : List Stp} (hi : env[i]? = some (.ow d)) (hg : getP p d = some d') : ∃ v0 v' f, σ[i]? = some (some v0) ∧ AtV H v0 p v' ∧ Val K mg H d' v' f ∧ f.Nodup ∧ (∀ b ∈ f, Mut (H b)) ∧ (∀ b ∈ f, b ∈ fps i) ∧
    ∀ {a : Addr} {o : HO} {e' : D} {f' : List Addr}, v' = .ref a → a ∈ f → Mut (some o) → Val K mg (upd H a o) e' v' f' → f'.Nodup → (∀ b ∈ f', b ∈ f ∨ (Z b = none ∧ Mut (H b) ∧ ∀ j d'', look env j = some d'' → b ∉ fps j)) →
      ∃ fps', ER K mg Z (env.set i (.ow (setP p e' d))) σ (upd H a o) fps' := by
  obtain ⟨v0, s0, hv⟩ := E.val i _ (look_ow hi)
  obtain ⟨o1, o2, o3⟩ := E.own i _ hi
  obtain ⟨v', f1, f, f2, q1, q2, q3, q4⟩ := focus p hv hg
  have nd : (f1 ++ f ++ f2).Nodup := by rw [← q2]; exact o1
  have hin : ∀ b ∈ f, b ∈ fps i := fun b hb => by rw [q2]; simp [hb]
  obtain ⟨n12, n2, n3⟩ := List.nodup_append.mp nd
  obtain ⟨n1, nf_, n4⟩ := List.nodup_append.mp n12
  refine ⟨v0, v', f, s0, q1, q3, nf_, fun b hb => (o2 b (hin b hb)).2, hin, fun {a o e' f'} ev ha mo hv' nd' hf' => ?_⟩
  obtain ⟨m1, m2, m3⟩ := mut_ok (o2 a (hin a ha)).2
  have kp : Kp (f1 ++ f2) H (upd H a o) := Kp.upd (fun z => by
    rcases List.mem_append.mp z with z | z
    · exact n4 a z a ha rfl
    · exact n3 a (List.mem_append_right _ ha) a z rfl) m1 m2 m3
  have hfar : ∀ b ∈ f', b ∉ f1 ∧ b ∉ f2 := fun b hb => by
    rcases hf' b hb with z | ⟨_, _, z⟩
    · exact ⟨fun w => n4 b w b z rfl, fun w => n3 b (List.mem_append_right _ z) b w rfl⟩
    · have := z i _ (look_ow hi)
      rw [q2] at this
      simp only [List.mem_append, not_or] at this
      exact ⟨this.1.1, this.2⟩
  refine ⟨_, E.mut hi (hin a ha) mo s0 (q4 hv' kp) ?_ fun b hb => ?_⟩
  · refine List.nodup_append.mpr ⟨List.nodup_append.mpr ⟨n1, nd', fun x hx y hy e => (hfar y hy).1 (e ▸ hx)⟩, n2, fun x hx y hy e => ?_⟩
    rcases List.mem_append.mp hx with z | z
    · exact n3 x (List.mem_append_left _ z) y hy e
    · exact (hfar x z).2 (e ▸ hy)
  · rcases List.mem_append.mp hb with z | z
    · rcases List.mem_append.mp z with z | z
      · exact .inl (by rw [q2]; simp [z])
      · rcases hf' b z with w | w
        · exact .inl (hin b w)
        · exact .inr w
    · exact .inl (by rw [q2]; simp [z])
end
/-! ### readings of such places -/
inductive PX where
  | v | f (p : PX) (c n : Str) | x (p : PX) (e : En → R D)
def stepFor (c k : D) : Option Stp := match c with
  | .lst _ => match k with
    | .int i => some (.i i)
    | _ => none
  | .dk _ _ => (keyOf k).map .d
  | .dt _ _ => (keysOf k).map .t
  | _ => none
def resolve (i : Nat) : PX → En → R (List Stp × D)
  | .v, env => match env[i]? with
    | some (.ow d) => .ok ([], d)
    | _ => .no
  | .f p c n, env => resolve i p env >>= fun q => match q.2 with
    | .ins c' _ _ _ => if c' = c then R.of ((getP [.f n] q.2).map fun d => (q.1 ++ [.f n], d)) else .no
    | _ => .no
  | .x p e, env => resolve i p env >>= fun q => e env >>= fun k => R.of ((stepFor q.2 k).bind fun s => (getP [s] q.2).map fun d => (q.1 ++ [s], d))
def tPx (K : PySem.W.Frag) (mg : Str → Option Value) (W : WX) (i : Nat) (p : PX) : TE := fun σ H Q => ∃ Z env fps, ER K mg Z env σ H fps ∧ Out mg W σ H (resolve i p env) fun q => ∀ H' v v0 f, Sm H H' → σ[i]? = some (some v0) → AtV H' v0 q.1 v → Val K mg H' q.2 v f → Q v H'
abbrev DPx (X : Cx) (W : WX) (i : Nat) (e : Expr) (p : PX) : Prop := PE X e (tPx X.K X.mg W i p)
section
variable {X : Cx} {W : WX} {i : Nat} {x c n : Str} {px pos : Pos} {o b : Expr} {p : PX} {g : En → R D}
theorem dpx_v (h : PE X (.Name x px) (tVar i)) : DPx X W i (.Name x px) .v := pe_weak h fun σ H Q ⟨Z, env, fps, E, q⟩ => by
  simp only [resolve] at q
  split at q
  · rename_i d hd
    obtain ⟨v, h1, h2⟩ := E.val i d (look_ow hd)
    exact ⟨v, h1, q H v v _ (Sm.refl H) h1 rfl h2⟩
  · exact q.elim
theorem dpx_f (h : DPx X W i o p) (hc : ClsD X.K X.mg c) (hn : FldD X.K X.mg c n) (hb : attributeBase o n X.env (eval o X.env) = eval o X.env := by rfl) : DPx X W i (.Attribute o n pos) (.f p c n) :=
  pe_weak (pe_fld h hb) fun σ H Q ⟨Z, env, fps, E, q⟩ => by
    refine ⟨Z, env, fps, E, ?_⟩
    simp only [resolve] at q
    refine q.bind.imp fun w qq H1 v v0 f e1 s0 hat hv => ?_
    split at qq
    · rename_i c' id fs xs hw
      split at qq
      · rename_i hcc
        subst hcc
        obtain ⟨r, er, qq⟩ := Out.of qq
        obtain ⟨d, hd, rfl⟩ := Option.map_eq_some_iff.mp er
        rw [hw] at hv hd
        obtain ⟨u, f1, f, f2, w1, w2, w3, _⟩ := focus [.f n] hv hd
        obtain ⟨a, u', ea, st, ee⟩ := w1
        simp only [AtV] at ee
        subst ee ea
        obtain ⟨C, dx, kvs, h1, h2⟩ := st
        obtain ⟨C0, hC0, cl⟩ := hc
        have hv' := hv
        simp only [Val] at hv'
        obtain ⟨a', C', dx', kvs', g, e2, ef, hm, ha, _⟩ := hv'
        cases e2
        rw [ha] at h1; cases h1
        rw [hC0] at hm; cases hm
        exact ⟨a, _, dx, kvs, u', rfl, ha, cl, hn _ hC0, h2, qq H1 u' v0 f e1 s0 (hat.snoc (s := .f n) (show StepV H1 _ (.f n) u' from ⟨_, dx, kvs, ha, h2⟩)) w3⟩
      · exact qq.elim
    · exact qq.elim
theorem dpx_x (hu : X.A.units + 1 < cLine) (h : DPx X W i o p) (hb : DE X W b g) (hs : PlainIx b := by exact fun _ _ => rfl) : DPx X W i (.Subscript o b pos) (.x p g) :=
  pe_weak (pe_ix (ix_list.or (ix_dict hu)) h hb hs) fun σ H Q ⟨Z, env, fps, E, q⟩ => by
    refine ⟨Z, env, fps, E, ?_⟩
    simp only [resolve] at q
    refine q.bind.imp fun w q H1 v v0 f e1 s0 hat hv => ?_
    refine stE (E.sm e1).penv (q.sm e1) fun k y H2 fk e2 hk _ q => ?_
    obtain ⟨r, er, q⟩ := Out.of q
    obtain ⟨s, hs1, er⟩ := Option.bind_eq_some_iff.mp er
    obtain ⟨d, hd, rfl⟩ := Option.map_eq_some_iff.mp er
    obtain ⟨u, f1, f', f2, w1, w2, w3, _⟩ := focus [s] (hv.sm e2) hd
    obtain ⟨a, u', ea, st, ee⟩ := w1
    simp only [AtV] at ee
    subst ee ea
    have fin := q H2 u' v0 f' (e1.trans e2) s0 ((hat.sm e2).snoc st) w3
    unfold stepFor at hs1
    split at hs1
    · split at hs1
      · cases hs1
        simp only [Val] at hk
        obtain ⟨vs, h1, h2⟩ := st
        exact .inl ⟨a, vs, _, u', rfl, hk.1, .inl (.inl h1), h2, fin⟩
      · cases hs1
    · obtain ⟨kk, hkk, rfl⟩ := Option.map_eq_some_iff.mp hs1
      obtain ⟨kvs, h1, h2⟩ := st
      have := hk.key hkk
      exact .inr ⟨a, u', rfl, .inl ⟨kvs, kk, h1, this, h2.symm⟩, fin⟩
    · obtain ⟨kk, hkk, rfl⟩ := Option.map_eq_some_iff.mp hs1
      obtain ⟨kvs, h1, h2⟩ := st
      obtain ⟨bb, e3, h3⟩ := hk.keys hkk
      exact .inr ⟨a, u', rfl, .inr ⟨kvs, kk, bb, h1, e3, h3, h2.symm⟩, fin⟩
    · cases hs1
end
end DL
set_option Elab.async false
set_option linter.all false
set_option maxRecDepth 100000
set_option maxHeartbeats 2000000
namespace DL
open PySem PySem.Spec PyProof.Rows L2
/-! ### stores at places within own values -/
def onP (r : R (List Stp × D)) (env : En) (k : List Stp → D → Fl) : Fl := onE r env fun q => k q.1 q.2
def putBack (i : Nat) (st : List Stp) (e : D) (env : En) : Fl := match env[i]? with
  | some (.ow r) => .nx (env.set i (.ow (setP st e r)))
  | _ => .no
theorem getP_app : ∀ {st : List Stp} {s : List Stp} {r : D}, getP (st ++ s) r = (getP st r).bind (getP s)
  | [], s, r => rfl
  | q :: st, s, r => by
    simp only [List.cons_append, getP]
    cases posS q r with
    | none => rfl
    | some p =>
      simp only [Option.bind_some]
      cases (kids r)[p]? with
      | none => rfl
      | some c => simp only [Option.bind_some]; exact getP_app
theorem resolve_get {i : Nat} {env : En} : ∀ {p : PX} {st : List Stp} {c : D}, resolve i p env = .ok (st, c) → ∃ r, env[i]? = some (.ow r) ∧ getP st r = some c
  | .v, st, c, h => by
    simp only [resolve] at h
    split at h
    · rename_i d hd; cases h; exact ⟨_, hd, rfl⟩
    · cases h
  | .f p cn n, st, c, h => by
    simp only [resolve] at h
    cases q : resolve i p env with
    | ok w =>
      rw [q, R.bind_ok] at h
      obtain ⟨r, h1, h2⟩ := resolve_get (p := p) (st := w.1) (c := w.2) q
      split at h
      · split at h
        · cases g : getP [.f n] w.2 with
          | none => rw [g] at h; cases h
          | some d => rw [g] at h; cases h; exact ⟨r, h1, by rw [getP_app, h2]; exact g⟩
        · cases h
      · cases h
    | ex x => rw [q] at h; cases h
    | no => rw [q] at h; cases h
  | .x p e, st, c, h => by
    simp only [resolve] at h
    cases q : resolve i p env with
    | ok w =>
      rw [q, R.bind_ok] at h
      obtain ⟨r, h1, h2⟩ := resolve_get (p := p) (st := w.1) (c := w.2) q
      cases k : e env with
      | ok kk =>
        rw [k, R.bind_ok] at h
        cases s : stepFor w.2 kk with
        | none => rw [s] at h; cases h
        | some s' =>
          rw [s] at h
          simp only [Option.bind_some] at h
          cases g : getP [s'] w.2 with
          | none => rw [g] at h; cases h
          | some d => rw [g] at h; cases h; exact ⟨r, h1, by rw [getP_app, h2]; exact g⟩
      | ex x => rw [k] at h; cases h
      | no => rw [k] at h; cases h
    | ex x => rw [q] at h; cases h
    | no => rw [q] at h; cases h
/-- what a place holds, told by Go -/
theorem Go.atP {K : PySem.W.Frag} {mg : Str → Option Value} {W : WX} {σ : L2.St} {Z H : Hp} {D' : Ends} {env : En} {i : Nat} {p : PX} {k : List Stp → D → Fl} (E : EO K mg Z env σ H) (g : Go K mg W Z D' (onP (resolve i p env) env k)) :
    Out mg W σ H (resolve i p env) fun q => Go K mg W Z D' (k q.1 q.2) ∧ ∃ r, env[i]? = some (.ow r) ∧ getP q.1 r = some q.2 := by
  have o := Go.out E g
  cases q : resolve i p env with
  | ok w => rw [q] at o; exact ⟨o, resolve_get q⟩
  | ex c => rw [q] at o; exact o
  | no => rw [q] at o; exact o
def sAppP (i : Nat) (p : PX) (f : En → R D) (env : En) : Fl := onP (resolve i p env) env fun st c => match c with
  | .lst xs => onE (f env) env fun d => if xs.length < sizeLine then putBack i st (.lst (xs ++ [d])) env else .no
  | _ => .no
section
variable {X : Cx} {W : WX} {pos cpos apos : Pos} {i : Nat} {o e : Expr} {p : PX} {f fk : En → R D}
theorem ds_appP (hx : DPx X W i o p) (h : DF X W e f) (hbase : attributeBase o "append" X.env (eval o X.env) = eval o X.env := by rfl)
    (hfew : ((backTo cpos (starEach [e] X.env)).all (fun x => !x.1) && (backToKw cpos (keywordEach [] X.env)).all (fun x => x.1.isSome)
      && decide (([e] : List Expr).length + ([] : List Keyword).length + (if ([] : List Keyword).isEmpty then 0 else 1) < 30)) = true := by rfl)
    (hline : (apos.endLine == cpos.line) = true := by rfl) (hs1 : starEach [e] X.env = (false, eval e X.env) :: starEach [] X.env := by rfl) (hplain : (backTo cpos (starEach [] X.env)).any (·.1) = false := by rfl)
    (hs : swapsWith (.Call (.Attribute o "append" apos) [e] [] cpos) none pos.line X.env = pure false := by rfl) : DS X W (.Expr (.Call (.Attribute o "append" apos) [e] [] cpos) pos) (sAppP i p f) :=
  ps_weak (ps_expr (pe_bm PySem.F.plainAttrs_list PySem.F.slot_list_append PySem.F.type_list_append mt_append hx (pa_cons h pa_nil hs1) hbase hfew hline hs1 hplain) hs) fun D σ H ⟨Z, env, E, g⟩ => by
  have E' := E
  obtain ⟨fps, E⟩ := E
  refine ⟨Z, env, fps, E, (Go.atP E' g).imp fun w ⟨g, r, hi, hg⟩ H1 v v0 fv e1 s0 hat hv => ?_⟩
  obtain ⟨st, c⟩ := w
  cases c with
  | lst xs =>
    have hv0 := hv
    simp only [Val] at hv0
    obtain ⟨a, vs, fl, ev, ef, ha, hvs⟩ := hv0
    subst ev
    refine ⟨.inl ⟨rfl, vs, .inl (.inl ha)⟩, ?_⟩
    have E1 := E.sm e1
    have E1' : EO X.K X.mg Z env σ H1 := ⟨fps, E1⟩
    refine ⟨_, env, E1.penv, (Go.out E1' g).imp fun d g y H2 fp e2 hy hn hp => ?_⟩
    split at g
    · rename_i hl
      obtain ⟨v0', v', f', s0', hat', hv', nd', mu', sub', up⟩ := (E1.sm e2).mutP hi hg
      rw [s0] at s0'; cases s0'
      have := (hat.sm e2).one hat'
      subst this
      simp only [Val] at hv'
      obtain ⟨a', vs', f'', ev', ef', ha', hvs'⟩ := hv'
      cases ev'
      rw [e2 _ _ ha] at ha'; cases ha'
      subst ef'
      have hap : a ∉ fp := fun z => by have := (hp a z).1; rw [ha] at this; cases this
      have kp : ∀ {fq}, a ∉ fq → Kp fq H2 (upd H2 a (.lst (vs ++ [y]))) := fun hq => Kp.upd hq (fun xs z => by rw [e2 _ _ ha] at z; cases z) (fun o xs z => by rw [e2 _ _ ha] at z; cases z) (fun o z => by rw [e2 _ _ ha] at z; cases z)
      unfold putBack at g
      rw [hi] at g
      simp only at g
      have df : ∀ b ∈ a :: f'', b ∉ fp := fun b hb z => (E1.new (hp b z).1).2 i _ (look_ow hi) (sub' b hb)
      obtain ⟨fps', E3⟩ := up (e' := .lst (xs ++ [d])) (f' := a :: (f'' ++ fp)) rfl List.mem_cons_self (o := .lst (vs ++ [y])) trivial
        (val_lst upd_same ((VAll.kp _ hvs' (kp (List.nodup_cons.mp nd').1)).append (VAll.one (Val.kp _ hy (kp hap)))))
        (by rw [← List.cons_append]; exact List.nodup_append.mpr ⟨nd', hn, fun b hb c hc z => df b hb (z ▸ hc)⟩) fun b hb => by
            rw [← List.cons_append] at hb
            rcases List.mem_append.mp hb with z | z
            · exact .inl z
            · obtain ⟨q1, q2⟩ := E1.new (hp b z).1
              exact .inr ⟨q1, (hp b z).2, q2⟩
      exact ⟨_, vs, y, rfl, rfl, e2 _ _ ha, by rw [hvs.length]; exact hl, g σ _ ⟨_, E3⟩⟩
    · exact g.elim
  | _ => exact g.elim
end
end DL
set_option Elab.async false
set_option linter.all false
set_option maxRecDepth 100000
set_option maxHeartbeats 2000000
namespace DL
open PySem PySem.Spec PyProof.Rows L2
/-! ### place[k] = e -/
def replD {κ : Type} [DecidableEq κ] : List κ → List D → κ → D → List D
  | k' :: ks, x :: xs, k, d => (if k' = k then d else x) :: replD ks xs k d
  | _, xs, _, _ => xs
def putD {κ : Type} [DecidableEq κ] (mk : List κ → List D → D) (ks : List κ) (xs : List D) (k : κ) (d : D) : Option D :=
  if ks.length < sizeLine then (if hasK ks k = true then (if imm d = true then some (mk ks (replD ks xs k d)) else none) else some (mk (ks ++ [k]) (xs ++ [d]))) else none
def storeD (c k d : D) : Option D := match c with
  | .lst xs => match k with
    | .int j => (L2.ixN xs.length j).map fun m => .lst (xs.set m d)
    | _ => none
  | .dk ks xs => (keyOf k).bind fun k => putD .dk ks xs k d
  | .dt ks xs => (keysOf k).bind fun k => putD .dt ks xs k d
  | _ => none
/-- a place's container gets an item -/
def storeR (i : Nat) (p : PX) (fk : En → R D) (d : D) (env : En) : R En := resolve i p env >>= fun q => fk env >>= fun k => R.of ((storeD q.2 k d).bind fun c' => match env[i]? with
  | some (.ow r) => some (env.set i (.ow (setP q.1 c' r)))
  | _ => none)
def sSetP (i : Nat) (p : PX) (fk f : En → R D) (env : En) : Fl := onE (f env) env fun d => onE (storeR i p fk d env) env fun e => .nx e
theorem set_any {X : Cx} (hu : X.A.units + 1 < cLine) : PSet X (fun o i v H Q => rSetL o i v H Q ∨ rSetD o i v H Q) := by
  intro pins s σ H o i v ov iv u Q I ro ri rv h
  rcases h with h | h
  · exact set_list pins s σ H o i v ov iv u Q I ro ri rv h
  · exact set_dict hu pins s σ H o i v ov iv u Q I ro ri rv h
section
variable {K : PySem.W.Frag} {mg : Str → Option Value} {H H1 H2 : Hp}
theorem VAll.repl {κ : Type} [DecidableEq κ] {k : κ} {d : D} {v : V} : ∀ {kvs : List (κ × V)} {ds : List D} {fp : List Addr}, VAll K mg H ds (kvs.map (·.2)) fp → Val K mg H d v [] → ∃ fp', fp'.Sublist fp ∧ VAll K mg H (replD (kvs.map (·.1)) ds k d) ((kvs.map fun kv => if kv.1 = k then (kv.1, v) else kv).map (·.2)) fp'
  | [], ds, fp, h, hd => by
    cases ds with
    | nil => exact ⟨fp, .refl _, by simpa [replD] using h⟩
    | cons d ds => simp only [List.map_nil, VAll] at h; obtain ⟨_, _, _, _, e, _⟩ := h; cases e
  | (k', u) :: kvs, [], fp, h, hd => by simp [VAll] at h
  | (k', u) :: kvs, x :: ds, fp, h, hd => by
    simp only [List.map_cons, VAll] at h
    obtain ⟨w, wr, f, g, ev, ef, h1, h2⟩ := h
    obtain ⟨rfl, rfl⟩ := List.cons.inj ev
    obtain ⟨fp', s, q⟩ := VAll.repl (k := k) h2 hd
    subst ef
    simp only [List.map_cons, replD]
    split
    · exact ⟨fp', s.trans (List.sublist_append_right _ _), by have := VAll.cons hd q; simpa using this⟩
    · exact ⟨f ++ fp', (List.Sublist.refl f).append s, VAll.cons h1 q⟩
theorem any_hasK {κ : Type} [DecidableEq κ] (kvs : List (κ × V)) (k : κ) : (kvs.any fun kv => decide (kv.1 = k)) = hasK (kvs.map (·.1)) k := by
  unfold hasK; rw [List.any_map]; rfl
/-- what a dict's store leaves: its keys, values, footprint -/
theorem put_dict {κ : Type} [DecidableEq κ] {mk : List κ → List D → D} {kvs : List (κ × V)} {ds : List D} {g fp : List Addr} {k : κ} {d c' : D} {y : V} (h : putD mk (kvs.map (·.1)) ds k d = some c') (hv : VAll K mg H ds (kvs.map (·.2)) g) (hy : Val K mg H d y fp) :
    kvs.length < sizeLine ∧ ∃ ks' ds' g', c' = mk ks' ds' ∧ (putK kvs k y).map (·.1) = ks' ∧ VAll K mg H ds' ((putK kvs k y).map (·.2)) g' ∧ (g'.Sublist g ∨ g' = g ++ fp) := by
  unfold putD at h
  rw [List.length_map] at h
  split at h
  · rename_i hl
    refine ⟨hl, ?_⟩
    unfold putK
    rw [any_hasK]
    split at h
    · rename_i hk
      rw [if_pos hk]
      split at h
      · rename_i hi
        cases h
        have := Val.imm _ hy hi
        subst this
        obtain ⟨g', s, q⟩ := hv.repl (k := k) hy
        refine ⟨_, _, g', rfl, ?_, q, .inl s⟩
        rw [List.map_map]
        exact List.map_congr_left fun kv _ => by simp only [Function.comp]; split <;> rfl
      · cases h
    · rename_i hk
      rw [if_neg hk]
      cases h
      refine ⟨_, _, g ++ fp, rfl, by simp, ?_, .inr rfl⟩
      rw [List.map_append]
      exact hv.append (VAll.one hy)
  · cases h
end
section
variable {X : Cx} {W : WX} {pos : Pos} {i : Nat} {o e b : Expr} {p : PX} {f fk : En → R D} {sp : Pos}
theorem rd_mut {H : Hp} {a : Addr} {u : HO} (h : Rd H a u) (m : Mut (H a)) : H a = some u := by
  rcases h with h | ⟨o, h⟩
  · exact h
  · rw [h] at m; exact m.elim
theorem Kp.trans {fp : List Addr} {H H1 H2 : Hp} (a : Kp fp H H1) (b : Kp fp H1 H2) : Kp fp H H2 :=
  ⟨fun c u hc h => b.rd c u hc (a.rd c u hc h), fun c vs hc h => b.lst c vs hc (a.lst c vs hc h), fun c o vs h => b.fz c o vs (a.fz c o vs h), fun c C dx fs hc h => b.ins c C dx fs hc (a.ins c C dx fs hc h), fun c xs h => b.tup c xs (a.tup c xs h), fun c x h => b.own c x (a.own c x h), fun c o C dx fs h => b.fzi c o C dx fs (a.fzi c o C dx fs h)⟩
theorem st_store {Z H1 : Hp} {env : En} {σ : L2.St} {fps : Nat → List Addr} {d : D} {y : V} {fp : List Addr} {Q : L2.St → Hp → Prop} (E1 : ER X.K X.mg Z env σ H1 fps) (hy : Val X.K X.mg H1 d y fp) (hn : fp.Nodup) (new1 : ∀ b ∈ fp, Z b = none ∧ Mut (H1 b) ∧ ∀ j d'', look env j = some d'' → b ∉ fps j)
    (o : Out X.mg W σ H1 (storeR i p fk d env) fun e => ∀ H', EO X.K X.mg Z e σ H' → Kp [] H1 H' → Q σ H') : gSub (tPx X.K X.mg W i p) (tE X.K X.mg W fk) (fun o i v H Q => rSetL o i v H Q ∨ rSetD o i v H Q) y σ H1 Q := by
  refine ⟨Z, env, fps, E1, ?_⟩
  unfold storeR at o
  have o1 := o.bind
  have ro : Out X.mg W σ H1 (resolve i p env) fun q => (Out X.mg W σ H1 (fk env >>= fun k => R.of ((storeD q.2 k d).bind fun c' => match env[i]? with
    | some (.ow r) => some (env.set i (.ow (setP q.1 c' r)))
    | _ => none)) fun e => ∀ H', EO X.K X.mg Z e σ H' → Kp [] H1 H' → Q σ H') ∧ ∃ r, env[i]? = some (.ow r) ∧ getP q.1 r = some q.2 := by
    cases q : resolve i p env with
    | ok w => rw [q] at o1; exact ⟨o1, resolve_get q⟩
    | ex c => rw [q] at o1; exact o1
    | no => rw [q] at o1; exact o1
  refine ro.imp fun w ⟨g, r, hi, hg⟩ H2 v v0 fv e2 s0 hat hv => ?_
  obtain ⟨st, c⟩ := w
  simp only at g hg hat hv
  have E2 := E1.sm e2
  refine stE E2.penv (g.sm e2) fun k u H3 fk' e3 hu' _ g => ?_
  have E3 := E2.sm e3
  obtain ⟨en, hen, g⟩ := Out.of g
  obtain ⟨c', hc, hen⟩ := Option.bind_eq_some_iff.mp hen
  rw [hi] at hen
  simp only [Option.some.injEq] at hen
  subst hen
  obtain ⟨v0', v', f', s0', hat', hv', nd', mu', sub', up⟩ := E3.mutP hi hg
  rw [s0] at s0'; cases s0'
  have := (hat.sm e3).one hat'
  subst this
  have hy3 := (hy.sm e2).sm e3
  have new : ∀ b ∈ fp, Z b = none ∧ Mut (H3 b) ∧ ∀ j d'', look env j = some d'' → b ∉ fps j := fun b hb => ⟨(new1 b hb).1, mut_sm (e2.trans e3) (new1 b hb).2.1, (new1 b hb).2.2⟩
  have df : ∀ b ∈ f', b ∉ fp := fun b hb z => (new b z).2.2 i _ (look_ow hi) (sub' b hb)
  unfold storeD at hc
  cases c with
  | lst xs =>
    simp only at hc
    cases k with
    | int j =>
      simp only at hc
      obtain ⟨m, hm, rfl⟩ := Option.map_eq_some_iff.mp hc
      simp only [Val] at hv' hu'
      obtain ⟨a, vs, fl, ev, ef, hA, hvs⟩ := hv'
      subst ev ef
      have hml : xs[m]? = some (xs.getD m .non) := by
        have : m < xs.length := (L2.ixN_seq hm).2.1
        simp [List.getD_eq_getElem?_getD, this]
      obtain ⟨w, f1, fm, f2, q1, q2, q3, q4⟩ := hvs.focus hml
      have hap : a ∉ fp := df a List.mem_cons_self
      have nfl := List.nodup_cons.mp nd'
      have kp : ∀ {fq}, a ∉ fq → Kp fq H3 (upd H3 a (.lst (vs.set m y))) := fun hq => Kp.upd hq (fun xs z => by rw [hA] at z; cases z) (fun o xs z => by rw [hA] at z; cases z) (fun o z => by rw [hA] at z; cases z)
      have nn : (f1 ++ fm ++ f2).Nodup := by rw [← q2]; exact nfl.2
      obtain ⟨n12, n2, n3⟩ := List.nodup_append.mp nn
      obtain ⟨n1, _, n4⟩ := List.nodup_append.mp n12
      have a12 : a ∉ f1 ++ f2 := fun z => nfl.1 (by rw [q2]; rcases List.mem_append.mp z with z | z <;> simp [z])
      have i1 : ∀ b ∈ f1, b ∈ a :: fl := fun b hb => by rw [q2]; simp [hb]
      have i2 : ∀ b ∈ f2, b ∈ a :: fl := fun b hb => by rw [q2]; simp [hb]
      obtain ⟨fps', E4⟩ := up (e' := .lst (xs.set m d)) (f' := a :: (f1 ++ fp ++ f2)) rfl List.mem_cons_self (o := .lst (vs.set m y)) trivial
        (val_lst upd_same (q4 (Val.kp _ hy3 (kp hap)) (kp a12)))
        (by
          refine List.nodup_cons.mpr ⟨?_, List.nodup_append.mpr ⟨List.nodup_append.mpr ⟨n1, hn, fun x hx z hz e => df x (i1 x hx) (e ▸ hz)⟩, n2, fun x hx z hz e => ?_⟩⟩
          · intro z
            rcases List.mem_append.mp z with z | z
            · rcases List.mem_append.mp z with z | z
              · exact a12 (by simp [z])
              · exact hap z
            · exact a12 (by simp [z])
          · rcases List.mem_append.mp hx with w | w
            · exact n3 x (by simp [w]) z hz e
            · exact df z (i2 z hz) (e ▸ w))
        fun b hb => by
          simp only [List.mem_cons, List.mem_append] at hb
          rcases hb with z | (z | z) | z
          · exact .inl (by simp [z])
          · exact .inl (i1 b z)
          · exact .inr (new b z)
          · exact .inl (i2 b z)
      exact .inl ⟨a, vs, j, m, rfl, hu'.1, hA, by rw [hvs.length]; exact hm, g _ ⟨_, E4⟩ (((e2.trans e3).kp []).trans (kp (by simp)))⟩
    | _ => simp at hc
  | dk ks xs =>
    simp only at hc
    obtain ⟨kk, hkk, hc⟩ := Option.bind_eq_some_iff.mp hc
    simp only [Val] at hv'
    obtain ⟨a, kvs, fl, ev, ef, hA, hks, hvs⟩ := hv'
    subst ev ef hks
    have hA' := rd_mut hA (mu' a List.mem_cons_self)
    have kp : ∀ {fq o}, a ∉ fq → Kp fq H3 (upd H3 a o) := fun hq => Kp.upd hq (fun xs z => by rw [hA'] at z; cases z) (fun o xs z => by rw [hA'] at z; cases z) (fun o z => by rw [hA'] at z; cases z)
    have hap : a ∉ fp := df a List.mem_cons_self
    have nfl := List.nodup_cons.mp nd'
    have hy4 := Val.kp (H' := upd H3 a (.dK (putK kvs kk y))) _ hy3 (kp hap)
    have hv4 := VAll.kp (H' := upd H3 a (.dK (putK kvs kk y))) _ hvs (kp nfl.1)
    obtain ⟨hl, ks', ds', g', ec, hk2, hv5, hs5⟩ := put_dict hc hv4 hy4
    subst ec
    have hin : ∀ b ∈ g', b ∈ fl ∨ b ∈ fp := fun b hb => by
      rcases hs5 with s | s
      · exact .inl (s.subset hb)
      · rw [s] at hb; exact List.mem_append.mp hb
    obtain ⟨fps', E4⟩ := up (e' := .dk ks' ds') (f' := a :: g') rfl List.mem_cons_self (o := .dK (putK kvs kk y)) trivial
      (by simp only [Val]; exact ⟨a, _, g', rfl, rfl, .inl upd_same, hk2, hv5⟩)
      (List.nodup_cons.mpr ⟨fun z => (hin a z).elim nfl.1 hap, by
        rcases hs5 with s | s
        · exact s.nodup nfl.2
        · rw [s]; exact List.nodup_append.mpr ⟨nfl.2, hn, fun x hx z hz e => df x (List.mem_cons_of_mem _ hx) (e ▸ hz)⟩⟩)
      fun b hb => by
        rcases List.mem_cons.mp hb with z | z
        · exact .inl (by simp [z])
        · exact (hin b z).imp (fun w => List.mem_cons_of_mem _ w) fun w => new b w
    have hu2 := hu'.key hkk
    exact .inr ⟨a, _, rfl, .inl ⟨kvs, kk, hA', hu2, hl, rfl⟩, g _ ⟨_, E4⟩ (((e2.trans e3).kp []).trans (kp (by simp)))⟩
  | dt ks xs =>
    simp only at hc
    obtain ⟨kk, hkk, hc⟩ := Option.bind_eq_some_iff.mp hc
    simp only [Val] at hv'
    obtain ⟨a, kvs, fl, ev, ef, hA, hks, hvs⟩ := hv'
    subst ev ef hks
    have hA' := rd_mut hA (mu' a List.mem_cons_self)
    have kp : ∀ {fq o}, a ∉ fq → Kp fq H3 (upd H3 a o) := fun hq => Kp.upd hq (fun xs z => by rw [hA'] at z; cases z) (fun o xs z => by rw [hA'] at z; cases z) (fun o z => by rw [hA'] at z; cases z)
    have hap : a ∉ fp := df a List.mem_cons_self
    have nfl := List.nodup_cons.mp nd'
    have hy4 := Val.kp (H' := upd H3 a (.dT (putK kvs kk y))) _ hy3 (kp hap)
    have hv4 := VAll.kp (H' := upd H3 a (.dT (putK kvs kk y))) _ hvs (kp nfl.1)
    obtain ⟨hl, ks', ds', g', ec, hk2, hv5, hs5⟩ := put_dict hc hv4 hy4
    subst ec
    have hin : ∀ b ∈ g', b ∈ fl ∨ b ∈ fp := fun b hb => by
      rcases hs5 with s | s
      · exact .inl (s.subset hb)
      · rw [s] at hb; exact List.mem_append.mp hb
    obtain ⟨fps', E4⟩ := up (e' := .dt ks' ds') (f' := a :: g') rfl List.mem_cons_self (o := .dT (putK kvs kk y)) trivial
      (by simp only [Val]; exact ⟨a, _, g', rfl, rfl, .inl upd_same, hk2, hv5⟩)
      (List.nodup_cons.mpr ⟨fun z => (hin a z).elim nfl.1 hap, by
        rcases hs5 with s | s
        · exact s.nodup nfl.2
        · rw [s]; exact List.nodup_append.mpr ⟨nfl.2, hn, fun x hx z hz e => df x (List.mem_cons_of_mem _ hx) (e ▸ hz)⟩⟩)
      fun b hb => by
        rcases List.mem_cons.mp hb with z | z
        · exact .inl (by simp [z])
        · exact (hin b z).imp (fun w => List.mem_cons_of_mem _ w) fun w => new b w
    obtain ⟨bb, e3', h3⟩ := hu'.keys hkk
    exact .inr ⟨a, _, rfl, .inr ⟨kvs, kk, bb, hA', e3', h3, hl, rfl⟩, g _ ⟨_, E4⟩ (((e2.trans e3).kp []).trans (kp (by simp)))⟩
  | _ => simp at hc
theorem ds_setP (hu : X.A.units + 1 < cLine) (h : DF X W e f) (hx : DPx X W i o p) (hk : DE X W b fk)
    (hs : swapsWithSole [.Subscript o b sp] e pos.line X.env = pure false := by rfl) (hw : swappedStores [.Subscript o b sp] e X.env = pure none := by rfl)
    (h1 : (assignEach [.Subscript o b sp] X.env).map (·.2) = [assign (.Subscript o b sp) X.env] := by rfl)
    (ha : ∀ v, assign (.Subscript o b sp) X.env v = (do
      let ov ← holding [v] (eval o X.env)
      let iv ← holding [v, ov] (eval b X.env)
      standAt sp
      holding [v, ov, iv] (setItem ov iv v)
      release [v, ov, iv] []) := by intro _; rfl) :
    DS X W (.Assign [.Subscript o b sp] e pos) (sSetP i p fk f) := ps_weak (ps_asg h (pg_sub hx hk (set_any hu) ha) hs hw h1) fun D σ H ⟨Z, env, E, g⟩ => by
  have E' := E
  obtain ⟨fps, E⟩ := E
  refine ⟨_, env, E.penv, (Go.out E' g).imp fun d g y H1 fp e1 hy hn hp => ?_⟩
  have E1' : EO X.K X.mg Z env σ H1 := ⟨fps, E.sm e1⟩
  refine st_store (E.sm e1) hy hn (fun b hb => ?_) ((Go.out E1' g).imp fun en g H' e' _ => g σ H' e')
  obtain ⟨q1, q2⟩ := E.new (hp b hb).1
  exact ⟨q1, (hp b hb).2, q2⟩
/-- a[i], b[j] = x, y: values that can't be changed -/
def sSetP2 (i : Nat) (p : PX) (fk : En → R D) (i2 : Nat) (p2 : PX) (fk2 : En → R D) (f : En → R (List D)) (env : En) : Fl := onE (f env) env fun ds => match ds with
  | [d1, d2] => if imm d1 = true ∧ imm d2 = true then onE (storeR i p fk d1 env) env fun e => onE (storeR i2 p2 fk2 d2 e) e fun e' => .nx e' else .no
  | _ => .no
theorem ds_setP2 {i2 : Nat} {p2 : PX} {fk2 : En → R D} {o2 b2 : Expr} {sp2 pt pt2 : Pos} {kt k2 : Nat} {es : List Expr} {f : En → R (List D)} (hu : X.A.units + 1 < cLine) (h : DA X W es f) (hx : DPx X W i o p) (hk : DE X W b fk) (hx2 : DPx X W i2 o2 p2) (hk2 : DE X W b2 fk2) (hc : X.calm = true := by rfl)
    (hs : swapsWithSole [.Tuple [.Subscript o b sp, .Subscript o2 b2 sp2] kt pt] (.Tuple es k2 pt2) pos.line X.env = pure false := by rfl) (hw : swappedStores [.Tuple [.Subscript o b sp, .Subscript o2 b2 sp2] kt pt] (.Tuple es k2 pt2) X.env = pure none := by rfl)
    (h1 : (assignEach [.Tuple [.Subscript o b sp, .Subscript o2 b2 sp2] kt pt] X.env).map (·.2) = [assign (.Tuple [.Subscript o b sp, .Subscript o2 b2 sp2] kt pt) X.env] := by rfl)
    (hn : (assignEach [.Subscript o b sp, .Subscript o2 b2 sp2] X.env).length = 2 := by rfl) (hst : (assignEach [.Subscript o b sp, .Subscript o2 b2 sp2] X.env).findIdx? (·.1) = none := by rfl)
    (hs1 : (assignEach [.Subscript o b sp, .Subscript o2 b2 sp2] X.env).map (·.2) = assign (.Subscript o b sp) X.env :: (assignEach [.Subscript o2 b2 sp2] X.env).map (·.2) := by rfl) (hs2 : (assignEach [.Subscript o2 b2 sp2] X.env).map (·.2) = assign (.Subscript o2 b2 sp2) X.env :: (assignEach [] X.env).map (·.2) := by rfl)
    (ha : ∀ v, assign (.Subscript o b sp) X.env v = (do
      let ov ← holding [v] (eval o X.env)
      let iv ← holding [v, ov] (eval b X.env)
      standAt sp
      holding [v, ov, iv] (setItem ov iv v)
      release [v, ov, iv] []) := by intro _; rfl)
    (ha2 : ∀ v, assign (.Subscript o2 b2 sp2) X.env v = (do
      let ov ← holding [v] (eval o2 X.env)
      let iv ← holding [v, ov] (eval b2 X.env)
      standAt sp2
      holding [v, ov, iv] (setItem ov iv v)
      release [v, ov, iv] []) := by intro _; rfl) :
    DS X W (.Assign [.Tuple [.Subscript o b sp, .Subscript o2 b2 sp2] kt pt] (.Tuple es k2 pt2) pos) (sSetP2 i p fk i2 p2 fk2 f) :=
  ps_weak (ps_asg (pe_tup h) (pg_tup hc (pgs_cons (pg_sub hx hk (set_any hu) ha) (pgs_cons (pg_sub hx2 hk2 (set_any hu) ha2) pgs_nil hs2) hs1) hn hst) hs hw h1) fun D σ H ⟨Z, env, E, g⟩ => by
  have E' := E
  obtain ⟨fps, E⟩ := E
  refine ⟨_, env, E.penv, (Go.out E' g).imp fun ds g vs H1 fp e1 hv hp => ?_⟩
  split at g
  · rename_i d1 d2
    split at g
    · rename_i him
      obtain ⟨v1, v2, f1, f2, ev, ef, q1, q2⟩ := hv.inv2
      have z1 := Val.imm _ q1 him.1
      have z2 := Val.imm _ q2 him.2
      subst z1 z2 ev
      refine ⟨by show 2 ≤ sizeLine; exact line2, fun t ht => ?_⟩
      have n1 : Sm H1 (upd H1 t (.tup [v1, v2])) := Sm.new ht
      have E1 := (E.sm e1).sm n1
      refine ⟨t, [v1, v2], rfl, .inl (.inl upd_same), rfl, ?_⟩
      refine ⟨v1, [v2], rfl, st_store E1 (q1.sm n1) List.nodup_nil nf ((Go.out ⟨fps, E1⟩ g).imp fun en g H' e' kq => ?_)⟩
      obtain ⟨fps2, e2⟩ := e'
      -- the second value stands as before
      have q2' : Val X.K X.mg H' d2 v2 [] := by
        exact Val.kp _ (q2.sm n1) kq
      exact ⟨v2, [], rfl, st_store e2 q2' List.nodup_nil nf ((Go.out ⟨fps2, e2⟩ g).imp fun en2 g H'' e'' _ => ⟨rfl, g σ H'' e''⟩)⟩
    · exact g.elim
  · exact g.elim
end
end DL
set_option Elab.async false
set_option linter.all false
set_option maxRecDepth 100000
set_option maxHeartbeats 400000
namespace DL
open PySem PySem.Spec PyProof.Rows L2
/-! ### dict comprehensions, keys of either kind -/
section
variable {X : Cx}
/-- one pair comes to the new dict -/
theorem put_new {pins : List (Addr × Obj)} {σ : L2.St} {H H' : Hp} {s : Shared} {E : Value → Shared → Prop} {a : Addr} {y v : V} {u r : Value} {Q : Unit → Shared → Prop} (hu : X.A.units < cLine) (I : Inv X pins σ H s) (g : DPut H a y v H') (ry : RelV y u) (rv : RelV v r)
    (h : ∀ s', Inv X pins σ H' s' → Q () s') : wpAny (model X.prog X.w) X.A (dictSet a u r) Q E s := by
  rcases g with ⟨kvs, k, e, ey, l, eH⟩ | ⟨kvs, k, b, e, ey, eb, l, eH⟩
  · subst ey; subst eH
    exact d_dictSet I e l ry rv h
  · subst ey; subst eH
    have eu : u = Value.ref b := ry
    subst eu
    obtain ⟨q1, q2, old, q3, q4⟩ := dt_of I.hok e
    have n1 : old.length = kvs.length := (Paired.length q3).symm
    have n2 := length_putK kvs k v
    have room : (tupleKind (mixKind X.prog X.w)).room X.A := by
      exact hu
    refine wpAny_dictSet_heap (hsz := by omega) room (key_of I.hok eb) q4 fun h' after same => h _ ?_
    obtain ⟨w, es, ep, t1, t2, t3, t4, _, t5⟩ := after
    have kept : ∀ c ys, H c = some (.tup ys) → (upd H a (.dT (putK kvs k v))) c = some (.tup ys) := fun c ys ec => by
      have : c ≠ a := fun z => by subst z; rw [e] at ec; cases ec
      rw [upd_ne this]; exact ec
    exact d_write I (by rw [e]; trivial) same ⟨w, t1⟩ ⟨by omega, q2, _, (q3.put k eb rv).keeps kept, w, es, ep, t1, t2, t3, t4, t5⟩
/-- {k: v for target in iter if ..}; new: the empty dict of the kind that is wanted -/
def tDcU (new : HO) (wi : TI) (g : TG) (tt : TT) (tk tv : TE) (vs : List Nat) : TE := fun σ H Q => wi σ H fun J H1 => ∀ a, H1 a = none → ∃ W : Nat → Nat → Hp → Prop, (∃ m, W 0 m (upd H1 a new)) ∧ ∀ i m H, W i m H →
  (J.stop i H ∧ Q (.ref a) H) ∨ (J.go i H ∧ ∃ Nx : Hp → Prop, (∀ H', Nx H' → ∃ m', m' < m ∧ W (i + 1) m' H') ∧ ∀ x H', J.yld i H x H' → g x (wipe σ vs) H' fun σ2 H2 => wipe σ2 vs = wipe σ vs ∧ tt σ2 H2 fun b H3 =>
    if b = true then tk σ2 H3 fun y H4 => tv σ2 H4 fun z H5 => ∃ H6, DPut H5 a y z H6 ∧ Nx H6 else Nx H3)
/-- a new dict is of either kind -/
def EmptyD (u : HO) : Prop := u = .dK [] ∨ u = .dT []
theorem empty_ok {new : HO} (h : EmptyD new) {P : Program} {w : World} {H : Hp} (hp : Heap) (hb : sysModules < hp.objs.size) : ObjOk P w H (hp.push { cls := .type "dict", data := .dict #[] }) hp.objs.size new := by
  rcases h with h | h
  · rw [h]; exact dk_empty hp hb
  · rw [h]; exact dt_empty hp hb
theorem pe_dcU {new : HO} {kx vx tg iter : Expr} {ifs : List Expr} {scope : Scope} {own : List (Str × Nat)} {pos : Pos} {wi : TI} {g : TG} {tt : TT} {tk tv : TE} (hnew : EmptyD new) (hu : X.A.units < cLine) (hc : X.calm = true) (hN : X.N.Nodup) (hi : PI X tg iter wi) (ok : BlkOk X.N X.env.scope scope own)
    (hg : ∀ (s : Shared) (H : Hp) (C : Addr) (cl : List (Str × Addr)) (fp : List Addr), PG (X.blk s H scope (compEnvC scope cl C X.env) fp) tg g)
    (ht : ∀ (s : Shared) (H : Hp) (C : Addr) (cl : List (Str × Addr)) (fp : List Addr), PTs (X.blk s H scope (compEnvC scope cl C X.env) fp) ifs tt)
    (hk : ∀ (s : Shared) (H : Hp) (C : Addr) (cl : List (Str × Addr)) (fp : List Addr), PE (X.blk s H scope (compEnvC scope cl C X.env) fp) kx tk)
    (hv : ∀ (s : Shared) (H : Hp) (C : Addr) (cl : List (Str × Addr)) (fp : List Addr), PE (X.blk s H scope (compEnvC scope cl C X.env) fp) vx tv)
    (hs : ∀ x, foldedSetIterable iter X.env x = pure x := by intro _; rfl) : PE X (.DictComp kx vx [⟨tg, iter, ifs, 0⟩] scope pos) (tDcU new wi g tt tk tv (own.map (·.2))) := by
  refine ⟨fun pins0 sA σ HA Qv IA want => ?_⟩
  rw [arm_eval_DictComp]
  have closes : ∀ y ∈ scope.names, y.2 = .free → ∃ c, X.env.cells.lookup y.1 = some c := fun y hy e => (ok.free y hy e).elim (fun k => IA.ok.has _ (.inl k)) fun k => IA.ok.has _ (.inr k)
  refine wpAny_comprehension_free rfl hs (closure_ok closes) ok.kind (fun y hy e => by rw [ok.uniq y hy, e]) (thn (hi.run pins0 sA σ HA _ IA want) fun xv sB found => thn found fun itv sC got => ?_)
  obtain ⟨it, held, tn, J, HC, eit, IC, T, stC, freeC, q⟩ := got
  subst eit
  refine wpAny_newObj_type (newEnv_comp ?_)
  -- the new dict at a
  generalize ha : sC.heap.objs.size = a
  have na : HC a = none := IC.hok.fresh (Nat.le_of_eq ha)
  obtain ⟨W, ⟨m0, w0⟩, turn⟩ := q a na
  have ID : Inv X pins0 σ (upd HC a new) { sC with heap := sC.heap.push { cls := .type "dict", data := .dict #[] } } := by
    refine IC.laid (t' := sC.toks) (fun b o e => Heap.get?_push_of_some _ e) (Nat.le_of_eq ha) ?_
    rw [← ha]; exact empty_ok hnew sC.heap IC.big
  generalize hsD : ({ sC with heap := sC.heap.push { cls := .type "dict", data := .dict #[] } } : Shared) = sD at ID
  have eD : sD.heap = sC.heap.push { cls := .type "dict", data := .dict #[] } := by rw [← hsD]
  show codeAny _ _ (.compStart (.DictComp kx vx [⟨tg, iter, ifs, 0⟩] scope pos) 0 (.ref it) (.ref a) (compEnvC scope (cellsFrom (sD.heap.objs.size + 1) scope.names (cloFrom X.env.cells scope.names [])) sD.heap.objs.size X.env))
    (compPost (model X.prog X.w) X.A X.xe none (EP X pins0 σ Qv) (.ref a) sD.heap.objs.size) { sD with heap := pushCells (sD.heap.push { cls := .type "dict", data := .dict #[] }) scope.names }
  generalize hHD : upd HC a new = HD at ID w0
  have freeD : ∀ b ∈ held, FpOk X pins0 HD b ∧ b < sD.heap.objs.size := fun b hb => by
    obtain ⟨o, eo, _⟩ := T.obj _ _ stC b hb
    have lt := Heap.lt_size eo
    refine ⟨⟨?_, (freeC b hb).2⟩, by rw [eD, Heap.size_push]; exact Nat.lt_succ_of_lt lt⟩
    rw [← hHD, upd_ne (by rw [← ha]; exact Nat.ne_of_lt lt)]
    exact (freeC b hb).1
  have stD : tn 0 sD.heap := T.keep _ _ _ stC fun b _ o e => by rw [eD]; exact Heap.get?_push_of_some _ e
  have IE := block_start ID ok hN freeD
  generalize hC : sD.heap.objs.size = C at IE ⊢
  generalize hcl : cellsFrom (C + 1) scope.names (cloFrom X.env.cells scope.names []) = cl at IE ⊢
  have pg := hg sD HD C cl held
  have pt := ht sD HD C cl held
  have pk := hk sD HD C cl held
  have pv := hv sD HD C cl held
  generalize hce : compEnvC scope cl C X.env = ce at IE pg pt pk pv ⊢
  have cL : ce.locals = C := by subst hce; rfl
  generalize hsE : ({ sD with heap := pushCells (sD.heap.push { cls := .type "dict", data := .dict #[] }) scope.names } : Shared) = sE at IE ⊢
  have stE_ : tn 0 sE.heap := T.keep _ _ _ stD fun b _ o e => by rw [← hsE]; exact pushCells_keeps _ _ _ _ (Heap.get?_push_of_some _ e)
  have heldE : ∀ b ∈ held, HD b = none := fun b hb => (freeD b hb).1.1
  have fpX : ∀ {σ' : L2.St} {H' : Hp} {s' : Shared}, Inv (X.blk sD HD scope ce held) [] σ' H' s' → (∀ b ∈ held, H' b = none) → ∀ b ∈ held, FpOk (X.blk sD HD scope ce held) [] H' b := fun {σ' H' s'} I' n b hb =>
    ⟨n b hb, (I'.ok.exf b hb).1, I'.ok.exfs b hb, .inl hb, fun x c e => (I'.ok.exf b hb).2 x c e, fun p hp => absurd (show p ∈ ([] : List (Addr × Obj)) ++ [] from hp) (by simp)⟩
  have loop : codeAny (model X.prog X.w) X.A (.compLoop (.DictComp kx vx [⟨tg, iter, ifs, 0⟩] scope pos) 0 (.ref it) (.ref a) ce) (compPost (model X.prog X.w) X.A X.xe none (EP X pins0 σ Qv) (.ref a) C) sE := by
    refine compLoop_anyD (fun n s' => ∃ i H', Inv (X.blk sD HD scope ce held) [] (wipe σ (own.map (·.2))) H' s' ∧ tn i s'.heap ∧ (∀ b ∈ held, H' b = none) ∧ W i n H') ?_ m0 ⟨0, HD, IE, stE_, heldE, w0⟩
    rintro n s1 ⟨i, H1, I1, st1, f1, w1⟩
    rcases turn i n H1 w1 with ⟨halt, won⟩ | ⟨more, Nx, hNx, step⟩
    · refine thnF (T.done (X.blk sD HD scope ce held) rfl rfl rfl hc i [] s1 _ H1 (fun _ _ => False) I1 (fpX I1 f1) st1 halt) fun r s2 ⟨er, I2⟩ => ?_
      subst er
      have back : Inv X pins0 σ H1 s2 := ID.call' (ch := held) I2.os I2.base I2.hok I2.bare fun b hb => ⟨(freeD b hb).1.2.2.2.1, (freeD b hb).1.2.1, (freeD b hb).1.2.2.2.2.1, (freeD b hb).1.2.2.2.2.2⟩
      have nC : H1 C = none := by
        have z : H1 ce.locals = none := I2.free
        rwa [cL] at z
      obtain ⟨m, hn, _⟩ := I2.loc
      have hn : s2.heap.Ns ce.locals m := hn
      rw [cL] at hn
      refine ⟨m, hn, fun h'' sb => ?_⟩
      obtain ⟨g0, g1, g2, g3, g4, g5⟩ := ID.fpOk (Nat.le_of_eq hC) nC
      exact ⟨.ref a, H1, back.turned (t' := s2.toks) (fun b o hb e => (sb.2 b hb).trans e) g0 g1 g3 g4 g5, rfl, won⟩
    · refine thnF (T.item (X.blk sD HD scope ce held) rfl rfl rfl hc i [] s1 _ H1 (fun _ _ => False) I1 (fpX I1 f1) st1 more) fun r s2 ⟨u, er, got⟩ => ?_
      subst er
      refine thnF got fun _ s3 ⟨x, H3, I3, r3, y3, st3, f3⟩ => ?_
      refine thnF (pg.run _ s3 _ H3 x u _ (I3.pinned (fpX I3 f3) (T.obj _ _ st3)) r3 (step x H3 y3)) fun _ s4 ⟨σ4, H4, I4, same, q4⟩ => ?_
      refine thnF (pt.run _ s4 σ4 H4 _ I4 q4) fun b s5 ⟨H5, I5, q5⟩ => ?_
      have turned : ∀ {s' : Shared} {H' : Hp}, Inv (X.blk sD HD scope ce held) ([] ++ pinsAt held s3.heap) σ4 H' s' → Nx H' → ∃ m, m < n ∧ ∃ i H', Inv (X.blk sD HD scope ce held) [] (wipe σ (own.map (·.2))) H' s' ∧ tn i s'.heap ∧ (∀ b ∈ held, H' b = none) ∧ W i m H' := fun {s' H'} I' nx => by
        obtain ⟨m', less, w'⟩ := hNx H' nx
        have pinned : ∀ b ∈ held, ∀ o, s3.heap.get? b = some o → s'.heap.get? b = some o ∧ H' b = none := fun b hb o e => let z := I'.pin (b, o) (List.mem_append_right _ (List.mem_append_right _ (mem_pinsAt hb e))); ⟨z.1, z.2.1⟩
        refine ⟨m', less, i + 1, H', (I'.unpinned (pins := [])).weak (by rw [← same, wipe_length]) (fun j v e => ?_), T.keep _ _ _ st3 fun b hb o e => (pinned b hb o e).1, fun b hb => ?_, w'⟩
        · rw [← same] at e; exact (wipe_some e).1
        · obtain ⟨o, eo, _⟩ := T.obj _ _ st3 b hb
          exact (pinned b hb o eo).2
      cases b with
      | false => exact turned I5 (by simpa using q5)
      | true =>
        rw [if_pos rfl] at q5
        refine thnF (pk.run _ s5 σ4 H5 _ I5 q5) fun _ s6 ⟨y, H6, I6, r6, q6⟩ => ?_
        refine thnF (pv.run _ s6 σ4 H6 _ I6 q6) fun _ s7 ⟨z, H7, I7, r7, H8, put, nx⟩ => ?_
        exact put_new (X := X.blk sD HD scope ce held) hu I7 put r6 r7 fun s8 I8 => turned I8 nx
  exact codeAny_compStart_dict loop (T.self X.A 0 _ _ _ stE_ loop)
end
end DL
set_option Elab.async false
set_option linter.all false
set_option maxRecDepth 100000
set_option maxHeartbeats 1000000
namespace DL
open PySem PySem.Spec PyProof.Rows L2
/-! ### dict comprehensions -/
def isDict : D → Bool
  | .dk _ _ => true
  | .dt _ _ => true
  | _ => false
section
variable {K : PySem.W.Frag} {mg : Str → Option Value} {H H0 H1 : Hp}
theorem store_dict {c k d c' : D} {a : Addr} {f fp fk : List Addr} {y z : V} (hc : storeD c k d = some c') (hi : isDict c = true) (hv : Val K mg H c (.ref a) (a :: f)) (m : Mut (H a)) (hk : Val K mg H k y fk) (hd : Val K mg H d z fp) (nd : (a :: f).Nodup) (hn : fp.Nodup) (df : ∀ b ∈ a :: f, b ∉ fp) :
    ∃ o f', DPut H a y z (upd H a o) ∧ Mut (some o) ∧ Val K mg (upd H a o) c' (.ref a) (a :: f') ∧ (a :: f').Nodup ∧ (∀ b ∈ f', b ∈ f ∨ b ∈ fp) ∧ isDict c' = true := by
  have hap : a ∉ fp := df a List.mem_cons_self
  have nfl := List.nodup_cons.mp nd
  cases c with
  | dk ks xs =>
    simp only [storeD] at hc
    obtain ⟨kk, hkk, hc⟩ := Option.bind_eq_some_iff.mp hc
    simp only [Val] at hv
    obtain ⟨a', kvs, fl, ev, ef, hA, hks, hvs⟩ := hv
    cases ev; cases ef; subst hks
    have hA' := rd_mut hA m
    have kp : ∀ {fq o}, a ∉ fq → Kp fq H (upd H a o) := fun hq => Kp.upd hq (fun xs z => by rw [hA'] at z; cases z) (fun o xs z => by rw [hA'] at z; cases z) (fun o z => by rw [hA'] at z; cases z)
    obtain ⟨hl, ks', ds', g', ec, hk2, hv5, hs5⟩ := put_dict hc (VAll.kp (H' := upd H a (.dK (putK kvs kk z))) _ hvs (kp nfl.1)) (Val.kp (H' := upd H a (.dK (putK kvs kk z))) _ hd (kp hap))
    subst ec
    have hin : ∀ b ∈ g', b ∈ f ∨ b ∈ fp := fun b hb => by
      rcases hs5 with s | s
      · exact .inl (s.subset hb)
      · rw [s] at hb; exact List.mem_append.mp hb
    refine ⟨.dK (putK kvs kk z), g', .inl ⟨kvs, kk, hA', hk.key hkk, hl, rfl⟩, trivial, ?_, List.nodup_cons.mpr ⟨fun w => (hin a w).elim nfl.1 hap, ?_⟩, hin, rfl⟩
    · simp only [Val]; exact ⟨a, _, g', rfl, rfl, .inl upd_same, hk2, hv5⟩
    · rcases hs5 with s | s
      · exact s.nodup nfl.2
      · rw [s]; exact List.nodup_append.mpr ⟨nfl.2, hn, fun x hx z hz e => df x (List.mem_cons_of_mem _ hx) (e ▸ hz)⟩
  | dt ks xs =>
    simp only [storeD] at hc
    obtain ⟨kk, hkk, hc⟩ := Option.bind_eq_some_iff.mp hc
    simp only [Val] at hv
    obtain ⟨a', kvs, fl, ev, ef, hA, hks, hvs⟩ := hv
    cases ev; cases ef; subst hks
    have hA' := rd_mut hA m
    have kp : ∀ {fq o}, a ∉ fq → Kp fq H (upd H a o) := fun hq => Kp.upd hq (fun xs z => by rw [hA'] at z; cases z) (fun o xs z => by rw [hA'] at z; cases z) (fun o z => by rw [hA'] at z; cases z)
    obtain ⟨hl, ks', ds', g', ec, hk2, hv5, hs5⟩ := put_dict hc (VAll.kp (H' := upd H a (.dT (putK kvs kk z))) _ hvs (kp nfl.1)) (Val.kp (H' := upd H a (.dT (putK kvs kk z))) _ hd (kp hap))
    subst ec
    have hin : ∀ b ∈ g', b ∈ f ∨ b ∈ fp := fun b hb => by
      rcases hs5 with s | s
      · exact .inl (s.subset hb)
      · rw [s] at hb; exact List.mem_append.mp hb
    obtain ⟨bb, e3, h3⟩ := hk.keys hkk
    refine ⟨.dT (putK kvs kk z), g', .inr ⟨kvs, kk, bb, hA', e3, h3, hl, rfl⟩, trivial, ?_, List.nodup_cons.mpr ⟨fun w => (hin a w).elim nfl.1 hap, ?_⟩, hin, rfl⟩
    · simp only [Val]; exact ⟨a, _, g', rfl, rfl, .inl upd_same, hk2, hv5⟩
    · rcases hs5 with s | s
      · exact s.nodup nfl.2
      · rw [s]; exact List.nodup_append.mpr ⟨nfl.2, hn, fun x hx z hz e => df x (List.mem_cons_of_mem _ hx) (e ▸ hz)⟩
  | _ => simp [isDict] at hi
end
def cmpD (T : Tg) (c : En → R Bool) (fk fv : En → R D) (env : En) : List D → D → Option D
  | [], acc => some acc
  | d :: ds, acc => (put T d env).bind fun e => (sure (c e)).bind fun b => if b = true then (sure (fk e)).bind fun k => (sure (fv e)).bind fun v => (storeD acc k v).bind fun acc' => cmpD T c fk fv env ds acc' else cmpD T c fk fv env ds acc
def eDComp (new : D) (vs : List Nat) (T : Tg) (fi : En → R (List D)) (c : En → R Bool) (fk fv : En → R D) (env : En) : R D := fi env >>= fun ds => R.of (cmpD T c fk fv (wipeE env vs) ds new)
def newD : D → Option HO
  | .dk [] [] => some (.dK [])
  | .dt [] [] => some (.dT [])
  | _ => none
theorem newD_ok {new : D} {u : HO} (h : newD new = some u) : EmptyD u ∧ isDict new = true ∧ Mut (some u) ∧ ∀ {K : PySem.W.Frag} {mg : Str → Option Value} {H : Hp} {a : Addr}, Val K mg (upd H a u) new (.ref a) [a] := by
  unfold newD at h
  split at h
  · cases h
    refine ⟨.inl rfl, rfl, trivial, fun {K mg H a} => ?_⟩
    simp only [Val]; exact ⟨a, [], [], rfl, rfl, .inl upd_same, rfl, by simp [VAll]⟩
  · cases h
    refine ⟨.inr rfl, rfl, trivial, fun {K mg H a} => ?_⟩
    simp only [Val]; exact ⟨a, [], [], rfl, rfl, .inl upd_same, rfl, by simp [VAll]⟩
  · cases h
section
variable {X : Cx} {W : WX} {kx vx tg iter : Expr} {ifs : List Expr} {scope : Scope} {own : List (Str × Nat)} {pos : Pos} {T : Tg} {fi : En → R (List D)} {c : En → R Bool} {fk fv : En → R D} {new : D} {u : HO}
theorem st_dcomp {K : PySem.W.Frag} {mg : Str → Option Value} {S : Addr → Prop} {env : En} {σ : L2.St} {H H1 : Hp} {Q : VK} {J : It} {ds : List D} {r : D} {fi : List Addr} {a : Addr} {vs : List Nat} (hu : newD new = some u) (hvs : ∀ j ∈ slots T, j ∈ vs) (P : PEnv K mg S env σ H) (e : Sm H H1) (w : WalkD K mg H1 fi J ds)
    (hfi : ∀ a ∈ fi, S a ∨ H a = none) (ha : H1 a = none) (hr : cmpD T c fk fv (wipeE env vs) ds new = some r)
    (k : ∀ H' f, Sm H1 H' → Val K mg H' r (.ref a) (a :: f) → (a :: f).Nodup → (∀ b ∈ a :: f, H b = none ∧ Mut (H' b)) → Q (.ref a) H') :
    ∃ Wv : Nat → Nat → Hp → Prop, (∃ m, Wv 0 m (upd H1 a u)) ∧ ∀ i m H, Wv i m H → (J.stop i H ∧ Q (.ref a) H) ∨ (J.go i H ∧ ∃ Nx : Hp → Prop, (∀ H', Nx H' → ∃ m', m' < m ∧ Wv (i + 1) m' H') ∧ ∀ x H', J.yld i H x H' →
      tgH K T x (wipe σ vs) H' fun σ2 H2 => wipe σ2 vs = wipe σ vs ∧ tT K mg W0 c σ2 H2 fun b H3 => if b = true then tE K mg W0 fk σ2 H3 fun y H4 => tF K mg W0 fv σ2 H4 fun z H5 => ∃ H6, DPut H5 a y z H6 ∧ Nx H6 else Nx H3) := by
  obtain ⟨hE, hD, hM, hN⟩ := newD_ok hu
  have hw := w H1 fun b o h _ => h
  let St : Nat → Hp → Prop := fun i H' => i ≤ ds.length ∧ Sm H1 H' ∧ ∃ acc f, isDict acc = true ∧ Val K mg H' acc (.ref a) (a :: f) ∧ (a :: f).Nodup ∧ (∀ b ∈ a :: f, H b = none ∧ Mut (H' b)) ∧ cmpD T c fk fv (wipeE env vs) (ds.drop i) acc = some r
  refine ⟨fun i m H' => m = ds.length - i ∧ St i H', ⟨ds.length, by simp, Nat.zero_le _, Sm.new ha, new, [], hD, hN, by simp, fun b hb => ?_, by simpa using hr⟩, ?_⟩
  · simp only [List.mem_singleton] at hb
    subst hb; exact ⟨e.back ha, by rw [upd_same]; exact hM⟩
  rintro i m H' ⟨rfl, hi, sm, acc, f, hd, hv, nd, hf, hc⟩
  obtain ⟨w1, w2⟩ := hw H' sm i
  by_cases hl : i < ds.length
  · refine .inr ?_
    have hdi : ds[i]? = some ds[i] := List.getElem?_eq_getElem hl
    obtain ⟨go, y⟩ := w1 _ hdi
    refine ⟨go, St (i + 1), fun H' h => ⟨ds.length - (i + 1), by omega, rfl, h⟩, fun x H2 hy => ?_⟩
    obtain ⟨e2, fp, hvx, hfp⟩ := y x H2 hy
    rw [List.drop_eq_getElem_cons hl] at hc
    simp only [cmpD, Option.bind_eq_some_iff] at hc
    obtain ⟨e1, he1, b, hb, hc⟩ := hc
    have P2 : PEnv K mg (fun b => (S b ∨ H b = none) ∧ b ∉ fi ∨ True) (wipeE env vs) (wipe σ vs) H2 := by
      have q := ((P.sm (e.trans (sm.trans e2))).wipe vs)
      exact q.wide fun a _ => .inr trivial
    refine tg_pe T he1 P2 hvx (fun _ _ => .inr trivial) fun σ2 P3 same len => ⟨?_, ?_⟩
    · rw [wipe_ext (σ := wipe σ vs) len (fun j hj => same j (fun z => hj (hvs j z)))]
      exact wipe_ext (wipe_length σ vs) (fun j hj => wipe_keep hj)
    · refine ⟨_, e1, P3, sure_out hb fun H3 e3 => ?_⟩
      have keep3 : ∀ b ∈ a :: f, H b = none ∧ Mut (H3 b) := fun b hb => ⟨(hf b hb).1, mut_sm (e2.trans e3) (hf b hb).2⟩
      cases b with
      | false =>
        simp only [Bool.false_eq_true, if_false] at hc ⊢
        exact ⟨hl, sm.trans (e2.trans e3), acc, f, hd, (hv.sm e2).sm e3, nd, keep3, hc⟩
      | true =>
        simp only [if_true, Option.bind_eq_some_iff] at hc ⊢
        obtain ⟨kd, hk, vd, hvd, acc', hst, hc⟩ := hc
        refine ⟨_, e1, P3.sm e3, sure_out hk fun ky H4 fk' e4 hk4 _ => ?_⟩
        refine ⟨_, e1, (P3.sm e3).sm e4, sure_out hvd fun z H5 fz e5 hz5 hn5 hp5 => ?_⟩
        have e35 := (e2.trans e3).trans (e4.trans e5)
        have hv5 := hv.sm e35
        have old : ∀ b ∈ a :: f, b ∉ fz := fun b hb w => by
          have h4 := (hp5 b w).1
          exact (hv.sm ((e2.trans e3).trans e4)).gone hb h4
        obtain ⟨o, f', put, mo, hv6, nd6, hin, hd6⟩ := store_dict hst hd hv5 (mut_sm e35 (hf a List.mem_cons_self).2) (hk4.sm e5) hz5 nd hn5 old
        refine ⟨_, put, hl, fun b o' hb => ?_, acc', f', hd6, hv6, nd6, fun b hb => ?_, hc⟩
        · rw [upd_ne (ne_of_none hb ha)]; exact e35 _ _ (sm _ _ hb)
        · have g : b = a ∨ b ≠ a := Classical.em _
          rcases List.mem_cons.mp hb with w | w
          · subst w; exact ⟨(hf b List.mem_cons_self).1, by rw [upd_same]; exact mo⟩
          · have hne : b ≠ a := fun z => by subst z; exact (List.nodup_cons.mp nd6).1 w
            rw [upd_ne hne]
            rcases hin b w with z | z
            · exact ⟨(hf b (List.mem_cons_of_mem _ z)).1, mut_sm e35 (hf b (List.mem_cons_of_mem _ z)).2⟩
            · exact ⟨(e.trans (sm.trans ((e2.trans e3).trans e4))).back (hp5 b z).1, (hp5 b z).2⟩
  · have hi' : i = ds.length := by omega
    subst hi'
    rw [List.drop_length] at hc
    simp only [cmpD, Option.some.injEq] at hc
    subst hc
    exact .inl ⟨w2 (Nat.le_refl _), k H' f sm hv nd hf⟩
theorem df_dcomp (hnew : newD new = some u) (hu : X.A.units < cLine) (hi : DI X W tg iter fi) (hN : X.N.Nodup) (ok : BlkOk X.N X.env.scope scope own)
    (hg : ∀ (s : Shared) (H : Hp) (C : Addr) (cl : List (Str × Addr)) (fp : List Addr), DG (X.blk s H scope (compEnvC scope cl C X.env) fp) tg T)
    (ht : ∀ (s : Shared) (H : Hp) (C : Addr) (cl : List (Str × Addr)) (fp : List Addr), DTs (X.blk s H scope (compEnvC scope cl C X.env) fp) W0 ifs c)
    (hk : ∀ (s : Shared) (H : Hp) (C : Addr) (cl : List (Str × Addr)) (fp : List Addr), DE (X.blk s H scope (compEnvC scope cl C X.env) fp) W0 kx fk)
    (hv : ∀ (s : Shared) (H : Hp) (C : Addr) (cl : List (Str × Addr)) (fp : List Addr), DF (X.blk s H scope (compEnvC scope cl C X.env) fp) W0 vx fv)
    {vs : List Nat} (hov : own.map (·.2) = vs := by rfl) (hvs : ((slots T).all fun j => vs.contains j) = true := by rfl) (hc : X.calm = true := by rfl) (hs : ∀ x, foldedSetIterable iter X.env x = pure x := by intro _; rfl) :
    DF X W (.DictComp kx vx [⟨tg, iter, ifs, 0⟩] scope pos) (eDComp new vs T fi c fk fv) := by
  subst hov
  refine pe_weak (pe_dcU (g := tgH X.K T) (tt := tT X.K X.mg W0 c) (tk := tE X.K X.mg W0 fk) (tv := tF X.K X.mg W0 fv) (newD_ok hnew).1 hu hc hN hi ok hg ht hk hv hs) fun σ H Q ⟨S, env, P, q⟩ => ?_
  refine ⟨S, env, P, q.bind.imp fun ds q J H1 fi e h1 h2 w a ha => ?_⟩
  obtain ⟨d, ed, q⟩ := Out.of q
  exact st_dcomp hnew (subset_vs hvs) P e w h1 ha ed fun H' f sm hv nd hf => q (.ref a) H' (a :: f) (e.trans sm) hv nd hf
end
end DL
set_option Elab.async false
set_option linter.all false
set_option maxRecDepth 100000
set_option maxHeartbeats 1000000
namespace DL
open PySem PySem.Spec PyProof.Rows L2
/-! ### min, max over numbers, truth values, texts and tuples of these -/
mutual
/-- no list, dict, constant of the top in it -/
def clean : D → Bool
  | .bl _ => true
  | .int _ => true
  | .str _ => true
  | .non => true
  | .tup xs => cleanAll xs
  | _ => false
def cleanAll : List D → Bool
  | [] => true
  | x :: xs => clean x && cleanAll xs
end
mutual
theorem clean_inj : ∀ (a b : D), clean a = true → clean b = true → toPy a = toPy b → a = b
  | .non, b, _, h, e => by cases b <;> simp [clean, toPy] at h e <;> rfl
  | .bl x, b, _, h, e => by cases b <;> simp [clean, toPy] at h e; rw [e]
  | .int x, b, _, h, e => by cases b <;> simp [clean, toPy] at h e; rw [e]
  | .str x, b, _, h, e => by cases b <;> simp [clean, toPy] at h e; rw [e]
  | .tup xs, b, ha, h, e => by
    cases b <;> simp [clean, toPy] at h e ha
    rw [cleanAll_inj _ _ ha h e]
  | .ty _, b, ha, _, _ => by simp [clean] at ha
  | .lst _, b, ha, _, _ => by simp [clean] at ha
  | .fz _, b, ha, _, _ => by simp [clean] at ha
  | .kt _, b, ha, _, _ => by simp [clean] at ha
  | .dk _ _, b, ha, _, _ => by simp [clean] at ha
  | .dt _ _, b, ha, _, _ => by simp [clean] at ha
  | .ins _ _ _ _, b, ha, _, _ => by simp [clean] at ha
  | .fi _ _ _, b, ha, _, _ => by simp [clean] at ha
  | .io _ _, b, ha, _, _ => by simp [clean] at ha
  | .fl _, b, ha, _, _ => by simp [clean] at ha
theorem cleanAll_inj : ∀ (a b : List D), cleanAll a = true → cleanAll b = true → toPyAll a = toPyAll b → a = b
  | [], [], _, _, _ => rfl
  | [], _ :: _, _, _, e => by simp [toPyAll] at e
  | _ :: _, [], _, _, e => by simp [toPyAll] at e
  | x :: xs, y :: ys, ha, hb, e => by
    simp only [cleanAll, Bool.and_eq_true] at ha hb
    simp only [toPyAll, List.cons.injEq] at e
    rw [clean_inj x y ha.1 hb.1 e.1, cleanAll_inj xs ys ha.2 hb.2 e.2]
end
mutual
theorem clean_plain : ∀ (a : D), clean a = true → DL.plain a = true
  | .non, _ => rfl
  | .bl _, _ => rfl
  | .int _, _ => rfl
  | .str _, _ => rfl
  | .tup xs, h => by simp only [clean] at h; simp only [DL.plain]; exact cleanAll_plain xs h
  | .ty _, h => by simp [clean] at h
  | .lst _, h => by simp [clean] at h
  | .fz _, h => by simp [clean] at h
  | .kt _, h => by simp [clean] at h
  | .dk _ _, h => by simp [clean] at h
  | .dt _ _, h => by simp [clean] at h
  | .ins _ _ _ _, h => by simp [clean] at h
  | .fi _ _ _, h => by simp [clean] at h
  | .io _ _, h => by simp [clean] at h
  | .fl _, h => by simp [clean] at h
theorem cleanAll_plain : ∀ (a : List D), cleanAll a = true → plainAll a = true
  | [], _ => rfl
  | x :: xs, h => by
    simp only [cleanAll, Bool.and_eq_true] at h
    simp only [plainAll, Bool.and_eq_true]
    exact ⟨clean_plain x h.1, cleanAll_plain xs h.2⟩
end
theorem depthAll_le' {l : List PyData} {k : Nat} (h : ∀ d ∈ l, d.depth ≤ k) : PyData.depthAll l ≤ k := by
  induction l with
  | nil => simp [PyData.depthAll]
  | cons d l ih =>
    simp only [PyData.depthAll]
    have h1 := h d List.mem_cons_self
    have h2 := ih fun x hx => h x (List.mem_cons_of_mem _ hx)
    omega
theorem cleanAll_all (l : List D) : cleanAll l = l.all clean := by
  induction l with
  | nil => rfl
  | cons d l ih => simp [cleanAll, ih]
mutual
theorem clean_imm : ∀ (a : D), clean a = true → imm a = true
  | .non, _ => rfl
  | .bl _, _ => rfl
  | .int _, _ => rfl
  | .str _, _ => rfl
  | .tup xs, h => by simp only [clean] at h; simp only [DL.imm]; exact cleanAll_imm xs h
  | .ty _, h => by simp [clean] at h
  | .lst _, h => by simp [clean] at h
  | .fz _, h => by simp [clean] at h
  | .kt _, h => by simp [clean] at h
  | .dk _ _, h => by simp [clean] at h
  | .dt _ _, h => by simp [clean] at h
  | .ins _ _ _ _, h => by simp [clean] at h
  | .fi _ _ _, h => by simp [clean] at h
  | .io _ _, h => by simp [clean] at h
  | .fl _, h => by simp [clean] at h
theorem cleanAll_imm : ∀ (a : List D), cleanAll a = true → immAll a = true
  | [], _ => rfl
  | x :: xs, h => by
    simp only [cleanAll, Bool.and_eq_true] at h
    simp only [immAll, Bool.and_eq_true]
    exact ⟨clean_imm x h.1, cleanAll_imm xs h.2⟩
end
/-- a is less than b -/
def ltS (a b : D) : Bool := PySem.W.dataLt (toPy a) (toPy b)
def better (mx : Bool) (a y : D) : D := if (if mx = true then ltS a y else ltS y a) = true then y else a
def bestL (mx : Bool) : List D → Option D
  | [] => none
  | x :: xs => some (xs.foldl (better mx) x)
def bestOk (ds : List D) : Bool := cleanAll ds && ds.all (fun d => ds.all fun e => PySem.W.alike (toPy d) (toPy e)) && ds.all (fun d => match d with | .non => false | _ => true) && ds.all fun d => decide ((toPy d).depth ≤ 40)
def bestG (mx : Bool) : List D → Option D
  | [.int i, .int j] => some (.int (if mx = true then (if j > i then j else i) else (if j < i then j else i)))
  | [d] => (items d).bind fun ds => if bestOk ds = true then bestL mx ds else none
  | _ => none
def minG : List D → Option D := bestG false
def maxG : List D → Option D := bestG true
def betterP (mx : Bool) (a y : PyData) : PyData := if (if mx = true then PySem.W.dataLt a y else PySem.W.dataLt y a) = true then y else a
theorem better_py (mx : Bool) (a y : D) : toPy (better mx a y) = betterP mx (toPy a) (toPy y) := by
  unfold better betterP ltS
  cases mx <;> simp only [if_true, Bool.false_eq_true, if_false] <;> split <;> rfl
theorem fold_py (mx : Bool) : ∀ (xs : List D) (x : D), toPy (xs.foldl (better mx) x) = (xs.map toPy).foldl (betterP mx) (toPy x)
  | [], x => rfl
  | y :: xs, x => by
    simp only [List.foldl_cons, List.map_cons]
    rw [fold_py mx xs, better_py]
theorem fold_mem (mx : Bool) : ∀ (xs : List D) (x : D), xs.foldl (better mx) x ∈ x :: xs
  | [], x => List.mem_cons_self
  | y :: xs, x => by
    simp only [List.foldl_cons]
    have h := fold_mem mx xs (better mx x y)
    have e : better mx x y = x ∨ better mx x y = y := by
      unfold better
      by_cases c : (if mx = true then ltS x y else ltS y x) = true
      · right; rw [if_pos c]
      · left; rw [if_neg c]
    rcases List.mem_cons.mp h with w | w
    · rw [w]; rcases e with e | e <;> rw [e] <;> simp
    · exact List.mem_cons_of_mem _ (List.mem_cons_of_mem _ w)
section
variable {X : Cx}
theorem cr_bestG (mx : Bool) (hc : X.calm = true) (hu : X.A.units + 64 < cLine) : CallR X (.builtin (if mx = true then "max" else "min")) (rCD X.K X.mg (bestG mx)) := by
  intro pins s σ H xs us Q I r ⟨ds0, fp, hv, d, e, q⟩
  unfold bestG at e
  split at e
  · cases e
    obtain ⟨v, v2, f, f2, rfl, ef, h1, h2⟩ := hv.inv2
    simp only [Val] at h1 h2
    cases mx with
    | true => exact call_max2 hc pins s σ H _ us Q I r ⟨_, _, by rw [h1.1, h2.1], q _ H [] (Sm.refl H) val_int .nil⟩
    | false => exact call_min2 hc pins s σ H _ us Q I r ⟨_, _, by rw [h1.1, h2.1], q _ H [] (Sm.refl H) val_int .nil⟩
  · rename_i d0
    obtain ⟨ds, e1, e⟩ := Option.bind_eq_some_iff.mp e
    split at e
    · rename_i hok
      obtain ⟨v, exs, hv1⟩ := hv.inv1; clear hv; subst exs; have hv := hv1; clear hv1
      obtain ⟨a, vs, f, ex, hsq, hv', hf⟩ := hv.seq e1
      subst ex
      rw [Vals.ref1 r]
      simp only [bestOk, Bool.and_eq_true] at hok
      obtain ⟨⟨⟨ok1, ok2⟩, ok3⟩, ok4⟩ := hok
      cases ds with
      | nil => cases e
      | cons x xs =>
        cases e
        have hpl := cleanAll_plain _ ok1
        have dp := VAll.dp _ hv' hpl
        have c1 : ∀ w ∈ x :: xs, clean w = true := by rwa [cleanAll_all, List.all_eq_true] at ok1
        have key : ∀ (its : List Value), Vals vs its → ∀ (i : Nat) v h' tk bs, its[i]? = some v → Reads h' v (toPy (xs.foldl (better mx) x)) bs → (∀ b o, s.heap.get? b = some o → h'.get? b = some o) → (EP X pins σ Q) v { s with heap := h', toks := tk } := by
          intro its rv i v h' tk bs hi hg hk
          have hil : i < vs.length := by rw [rv.length]; exact (List.getElem?_eq_some_iff.mp hi).1
          obtain ⟨u, hu1, rw_⟩ := rv.get (List.getElem?_eq_getElem hil)
          rw [hi] at hu1; cases hu1
          obtain ⟨di, gi, h1, h2, h3⟩ := hv'.getV (List.getElem?_eq_getElem hil)
          have cl := c1 di (List.mem_of_getElem? h1)
          obtain ⟨as, r1⟩ := Dp.reads I _ _ _ (Val.dp _ h2 (clean_plain _ cl)) rw_
          have e2 := (PySem.Reads.unique (PyProof.Rows.Reads.keeps hk r1) _ _ hg).1
          have e3 := clean_inj _ _ cl (c1 _ (fold_mem mx xs x)) e2
          have hgi := Val.imm _ h2 (clean_imm _ cl)
          subst hgi
          rw [e3] at h2
          exact ⟨_, H, I.kept hk, rw_, q _ H [] (Sm.refl H) h2 .nil⟩
        have al : PySem.W.AlikeAll (toPy x :: xs.map toPy) := by
          rw [← List.map_cons]
          refine ⟨fun p hp w hw => ?_, fun p hp => ?_⟩
          · obtain ⟨p', hp', rfl⟩ := List.mem_map.mp hp
            obtain ⟨w', hw', rfl⟩ := List.mem_map.mp hw
            exact List.all_eq_true.mp (List.all_eq_true.mp ok2 p' hp') w' hw'
          · obtain ⟨p', hp', rfl⟩ := List.mem_map.mp hp
            have := List.all_eq_true.mp ok3 p' hp'
            have cl := c1 p' hp'
            cases p' <;> simp_all [toPy, clean]
        have dep : X.A.units + 1 + PyData.depthAll (toPy x :: xs.map toPy) < cLine := by
          have : PyData.depthAll (toPy x :: xs.map toPy) ≤ 40 := by
            rw [← List.map_cons]
            refine depthAll_le' fun p hp => ?_
            obtain ⟨p', hp', rfl⟩ := List.mem_map.mp hp
            simpa using List.all_eq_true.mp ok4 p' hp'
          omega
        have fe : toPy (xs.foldl (better mx) x) = (xs.map toPy).foldl (betterP mx) (toPy x) := fold_py mx xs x
        rcases hsq with hs | hs
        · obtain ⟨its, rv, hl, _⟩ := I.list hs
          obtain ⟨as, ra⟩ := Dp.readsAll I _ _ _ dp rv
          rw [toPyAll_map] at ra
          cases mx with
          | true => exact PySem.W.max_list_data (I.ok.hd hc) hl.isList ra al dep fun i v h' tk bs hi hg hk => key its rv i v h' tk bs (by simpa using hi) (by rw [fe]; exact hg) hk
          | false => exact PySem.W.min_list_data (I.ok.hd hc) hl.isList ra al dep fun i v h' tk bs hi hg hk => key its rv i v h' tk bs (by simpa using hi) (by rw [fe]; exact hg) hk
        · obtain ⟨its, rv, hl, _⟩ := I.tuple hs
          obtain ⟨as, ra⟩ := Dp.readsAll I _ _ _ dp rv
          rw [toPyAll_map] at ra
          cases mx with
          | true => exact PySem.W.max_tuple_data (I.ok.hd hc) hl ra al dep fun i v h' tk bs hi hg hk => key its rv i v h' tk bs (by simpa using hi) (by rw [fe]; exact hg) hk
          | false => exact PySem.W.min_tuple_data (I.ok.hd hc) hl ra al dep fun i v h' tk bs hi hg hk => key its rv i v h' tk bs (by simpa using hi) (by rw [fe]; exact hg) hk
    · cases e
  · cases e
theorem cr_minG (hc : X.calm = true) (hu : X.A.units + 64 < cLine) : CallR X (.builtin "min") (rCD X.K X.mg minG) := cr_bestG false hc hu
theorem cr_maxG (hc : X.calm = true) (hu : X.A.units + 64 < cLine) : CallR X (.builtin "max") (rCD X.K X.mg maxG) := cr_bestG true hc hu
end
end DL
set_option Elab.async false
set_option linter.all false
set_option maxRecDepth 100000
set_option maxHeartbeats 1000000
namespace DL
open PySem PySem.Spec PyProof.Rows L2
/-! ### classes as the top has written them -/
section
variable {P : Program} {w : World} {K : PySem.W.Frag} {mg : Str → Option Value} {base h : Heap}
def RawM (K : PySem.W.Frag) (mg : Str → Option Value) (c m qual : Str) (st : Stmt) (ps : List Str) : Prop := ∃ C f fd, mg c = some (.ref C) ∧ Cls K C ∧ Meth K C m f ∧ Fun K m qual st f fd ∧ Binds K fd ps []
def RawI (K : PySem.W.Frag) (mg : Str → Option Value) (c qual : Str) (st : Stmt) (ps : List Str) : Prop := ∃ C f fd, mg c = some (.ref C) ∧ Mk K C f ∧ Fun K "__init__" qual st f fd ∧ Binds K fd ps []
theorem okMM {c m qual : Str} {st : Stmt} {N ps : List Str} {k n : Nat} {G : En → Fl} (r : RawM K mg c m qual st ps) (S : FnScope N ps (defScope st)) (hn : ps.length = n)
    (body : ∀ (f : Addr) (cdv : Value) (A : Around) (outer : List Env) (s : Shared) (H : Hp) (E : XK), Room k (A.deeper (envOfC qual (defScope st) s.heap.objs.size f cdv)) → Takes (cxOf (L2.CX P w) P w K mg base N qual (defScope st) f cdv A outer s H E) (fun cls d _ H => E cls d H) →
      DSs (cxOf (L2.CX P w) P w K mg base N qual (defScope st) f cdv A outer s H E) (fun cls d _ H => E cls d H) (defBody st) G) : MethD P w K mg base (k + 1) n c m (runD n N.length G) := by
  obtain ⟨C, f, fd, h1, h2, h3, h4, h5⟩ := r
  exact ⟨C, f, fd, ps, h1, h2, h3, h5, okD h4 S hn (body f)⟩
theorem okMI {c qual : Str} {st : Stmt} {N ps : List Str} {k n : Nat} {G : En → Fl} (r : RawI K mg c qual st ps) (S : FnScope N ps (defScope st)) (hn : ps.length = n + 1)
    (body : ∀ (f : Addr) (cdv : Value) (A : Around) (outer : List Env) (s : Shared) (H : Hp) (E : XK), Room k (A.deeper (envOfC qual (defScope st) s.heap.objs.size f cdv)) → Takes (cxOf (L2.CX P w) P w K mg base N qual (defScope st) f cdv A outer s H E) (fun cls d _ H => E cls d H) →
      DSs (cxOf (L2.CX P w) P w K mg base N qual (defScope st) f cdv A outer s H E) (fun cls d _ H => E cls d H) (defBody st) G) : MakeD P w K mg base (k + 1) n c (mkF c n N.length G) := by
  obtain ⟨C, f, fd, h1, h2, h3, h4⟩ := r
  exact ⟨C, f, fd, ps, h1, h2, h4, okI h3 S hn (body f)⟩
theorem rawM_mk {c m qual : Str} {st : Stmt} {ps : List Str} {C f : Addr} {oc : Value} {od an : Option Addr} {osl : Array (Option Value)} {kV doc pm cdv ct : Value} (hC : mg c = some (.ref C)) (cl : Cls K C) (a : PySem.W.findIn K (.ref C) m = some (some (.ref f))) (i : PySem.W.isFn K (.ref f) = true)
    (l : K.lookup f = some ⟨oc, od, .func (PySem.W.fnOf m qual (defArgs st) (defBody st) (defScope st) .none kV doc pm an cdv ct), osl⟩) (cc : PySem.W.codeIn K cdv qual = true) (k : PySem.W.keepIn K (.ref f) = true)
    (b : ∀ (kV doc pm : Value) (an : Option Addr) (cdv ct : Value) (us : List Value), us.length = ps.length → bindArgs (PySem.W.fnOf m qual (defArgs st) (defBody st) (defScope st) .none kV doc pm an cdv ct) ⟨us, []⟩ = pure (ps.zip us)) : RawM K mg c m qual st ps :=
  ⟨C, f, _, hC, cl, ⟨a, i, k⟩, fun_mk l cc k, (fun_mk l cc k).binds b⟩
theorem rawI_mk {c qual : Str} {st : Stmt} {ps : List Str} {C f : Addr} {oc : Value} {od an : Option Addr} {osl : Array (Option Value)} {kV doc pm cdv ct : Value} (hC : mg c = some (.ref C)) (mk : PySem.W.makesIn K C = true) (kc : PySem.W.keepIn K (.ref C) = true) (a : PySem.W.findIn K (.ref C) "__init__" = some (some (.ref f))) (i : PySem.W.isFn K (.ref f) = true)
    (l : K.lookup f = some ⟨oc, od, .func (PySem.W.fnOf "__init__" qual (defArgs st) (defBody st) (defScope st) .none kV doc pm an cdv ct), osl⟩) (cc : PySem.W.codeIn K cdv qual = true) (k : PySem.W.keepIn K (.ref f) = true)
    (b : ∀ (kV doc pm : Value) (an : Option Addr) (cdv ct : Value) (us : List Value), us.length = ps.length → bindArgs (PySem.W.fnOf "__init__" qual (defArgs st) (defBody st) (defScope st) .none kV doc pm an cdv ct) ⟨us, []⟩ = pure (ps.zip us)) : RawI K mg c qual st ps :=
  ⟨C, f, _, hC, ⟨mk, a, i, kc⟩, fun_mk l cc k, (fun_mk l cc k).binds b⟩
theorem fldD_mk {c n : Str} {C : Addr} (hC : mg c = some (.ref C)) (h : PySem.W.findIn K (.ref C) n = some none) : FldD K mg c n := fun C' h' => by
  rw [hC] at h'; cases h'; exact h
end
end DL
set_option Elab.async false
set_option linter.all false
namespace DL
open PySem PySem.Spec PyProof.Rows L2
/-! ## a tuple of numbers at the top; a comprehension in a comprehension -/
section
variable {X : Cx} {W : WX} {x : Str} {p : Pos}
theorem de_globT (is : List Int) (hm : ∃ a, X.mg x = some (.ref a) ∧ KTup X.K a (is.map V.int)) (hg : Gl X x := by rfl) (hd : (x == ("__debug__" : Str)) = false := by decide) : DE X W (.Name x p) (eC (.kt (is.map D.int))) := by
  obtain ⟨a, hm, hk⟩ := hm
  exact de_glob hm (v := .ref a) rfl (fun H => by unfold Val; exact ⟨a, _, rfl, hk, vall_ints⟩) hg hd
theorem kt_mk {K : PySem.W.Frag} {a : Addr} {o : Obj} {n : Nat} {vs : Array Value} {xs : List V} (l : K.lookup a = some o) (c : o.cls = .type "tuple") (d : o.data = .seq vs n) (hs : vs.size ≤ sizeLine) (hv : Vals xs vs.toList) : KTup K a xs := ⟨o, vs, n, l, c, d, hs, hv⟩
theorem lookup_relabel_free {env : Env} : ∀ {names : List (Str × NameKind)} {x : Str}, (names.lookup x = some .cell ∨ names.lookup x = some .free) →
    (names.map fun (n, k) => if (k == NameKind.free && env.scope.kind == .function && env.kindOf n == some .cell) then (n, NameKind.cell) else (n, k)).lookup x = some .cell ∨ (names.map fun (n, k) => if (k == NameKind.free && env.scope.kind == .function && env.kindOf n == some .cell) then (n, NameKind.cell) else (n, k)).lookup x = some .free
  | [], _, h => by simp at h
  | (n, k) :: r, x, h => by
    have ih := @lookup_relabel_free env r x
    show List.lookup x ((if (k == NameKind.free && env.scope.kind == .function && env.kindOf n == some .cell) = true then (n, NameKind.cell) else (n, k)) :: _) = _ ∨ List.lookup x ((if (k == NameKind.free && env.scope.kind == .function && env.kindOf n == some .cell) = true then (n, NameKind.cell) else (n, k)) :: _) = _
    cases hx : x == n with
    | true =>
      simp only [List.lookup_cons, hx] at h
      by_cases hc : (k == NameKind.free && env.scope.kind == .function && env.kindOf n == some .cell) = true
      · rw [if_pos hc]; simp [List.lookup_cons, hx]
      · rw [if_neg hc]; simp only [List.lookup_cons, hx]; exact h
    | false =>
      simp only [List.lookup_cons, hx] at h
      by_cases hc : (k == NameKind.free && env.scope.kind == .function && env.kindOf n == some .cell) = true
      · rw [if_pos hc]; simp only [List.lookup_cons, hx]; exact ih h
      · rw [if_neg hc]; simp only [List.lookup_cons, hx]; exact ih h
theorem blkOk_in {N : List Str} {sc scope : Scope} {own : List (Str × Nat)} {cl : List (Str × Addr)} {C : Addr} {env : Env} (h : BlkOk N sc scope own) : BlkOk N (compEnvC sc cl C env).scope scope own :=
  ⟨h.kind, h.uniq, h.ix, fun y hy e => lookup_relabel_free (h.free y hy e), h.own⟩
end
end DL
set_option Elab.async false
set_option linter.all false
set_option maxHeartbeats 2000000
namespace DL
open PySem PySem.Spec PyProof.Rows L2
/-! ### z.join(xs) -/
def strOf : D → Option Str
  | .str a => some a
  | _ => none
def strsD : List D → Option (List Str)
  | [] => some []
  | .str b :: r => (strsD r).map (b :: ·)
  | _ :: _ => none
def joinS (a : Str) (ys : List Str) : Option Str := if (ys.map (·.length)).sum + ys.length * a.length ≤ 16777216 then some (Txt.join a ys) else none
def joinD (a : Str) (d : D) : Option D := (items d).bind fun xs => (strsD xs).bind fun ys => (joinS a ys).map .str
def eJoin (f g : En → R D) (env : En) : R D := f env >>= fun d => R.of (strOf d) >>= fun a => g env >>= fun e => R.of (joinD a e)
section
variable {K : PySem.W.Frag} {mg : Str → Option Value} {H : Hp}
theorem VAll.strs : ∀ {ds : List D} {vs : List V} {f : List Addr} {bs : List Str}, VAll K mg H ds vs f → strsD ds = some bs → vs = bs.map V.str
  | [], vs, f, ns, h, e => by
    simp only [VAll] at h
    simp only [strsD, Option.some.injEq] at e
    subst e; rw [h.1]; rfl
  | d :: ds, vs, f, ns, h, e => by
    simp only [VAll] at h
    obtain ⟨v, vr, f1, g1, rfl, -, h1, h2⟩ := h
    cases d <;> simp only [strsD, reduceCtorEq, Option.map_eq_some_iff] at e
    obtain ⟨ns', e, rfl⟩ := e
    simp only [Val] at h1
    rw [h1.1, VAll.strs h2 e]; rfl
end
section
variable {X : Cx} {W : WX} {o e : Expr} {f g : En → R D} {apos pos : Pos}
theorem de_join (ho : DE X W o f) (he : DE X W e g) (hs : starEach [e] X.env = [(false, eval e X.env)] := by rfl) (hbase : attributeBase o "join" X.env (eval o X.env) = eval o X.env := by rfl) (hline : (apos.endLine == pos.line) = true := by rfl) :
    DE X W (.Call (.Attribute o "join" apos) [e] [] pos) (eJoin f g) := pe_weak (pe_join ho he hs hbase hline) fun σ H Q h => by
  obtain ⟨S, env, P, q⟩ := h
  refine stE P q fun d v H1 fp e1 hv hp q => ?_
  obtain ⟨a, ea, q⟩ := Out.of q.bind
  cases d <;> simp only [strOf, reduceCtorEq, Option.some.injEq] at ea
  subst ea
  simp only [Val] at hv
  obtain ⟨rfl, -⟩ := hv
  refine ⟨⟨_, rfl⟩, stE (P.sm e1) q fun d2 v2 H2 fp2 e2 hv2 hp2 q => ?_⟩
  obtain ⟨r, er, q⟩ := Out.of q
  unfold joinD at er
  rw [Option.bind_eq_some_iff] at er
  obtain ⟨xs, e0, er⟩ := er
  rw [Option.bind_eq_some_iff] at er
  obtain ⟨ys, e3, er⟩ := er
  rw [Option.map_eq_some_iff] at er
  obtain ⟨z, e4, rfl⟩ := er
  unfold joinS at e4
  split at e4
  · rename_i hl
    cases e4
    obtain ⟨p, vs, f2, rfl, q1, q2, -⟩ := hv2.seq e0
    have e5 := VAll.strs q2 e3
    subst e5
    exact ⟨_, p, ys, rfl, rfl, q1, hl, q _ H2 [] (e1.trans e2) val_str (by simp)⟩
  · cases e4
end
end DL
set_option Elab.async false
set_option linter.all false
set_option maxHeartbeats 2000000
namespace DL
open PySem PySem.Spec PyProof.Rows L2
/-! ### a dict of the top whose keys and values are texts -/
/-- name x of the module: a dict with these entries -/
def KDc (K : PySem.W.Frag) (w : World) (mg : Str → Option Value) (x : Str) (kvs : List (Str × Str)) : Prop :=
  ∃ a es n, mg x = some (.ref a) ∧ KDict K w a es n ∧ ∀ z, (∃ r, PySem.W.nsIn K a z = some r ∧ r.isSome = (kvs.lookup z).isSome ∧ ∀ y, kvs.lookup z = some y → ∃ t, r = some (.str y t))
def eInK (kvs : List (Str × Str)) (f : En → R D) (env : En) : R D := f env >>= fun d => R.of (strOf d) >>= fun z => .ok (.bl (kvs.lookup z).isSome)
def eNinK (kvs : List (Str × Str)) (f : En → R D) (env : En) : R D := f env >>= fun d => R.of (strOf d) >>= fun z => .ok (.bl (!(kvs.lookup z).isSome))
def eIxK (kvs : List (Str × Str)) (f : En → R D) (env : En) : R D := f env >>= fun d => R.of (strOf d) >>= fun z => R.of ((kvs.lookup z).map .str)
section
variable {X : Cx} {W : WX} {e : Expr} {f : En → R D} {x : Str} {p pos : Pos} {kvs : List (Str × Str)}
theorem de_inK (hk : KDc X.K X.w X.mg x kvs) (he : DE X W e f) (hg : Gl X x := by rfl) (hd : (x == ("__debug__" : Str)) = false := by decide) (hm : behindInMarks .In (.Name x p) = false := by first | exact nomark _ | rfl | with_unfolding_all rfl) :
    DE X W (.Compare e [.In] [.Name x p] pos) (eInK kvs f) := by
  obtain ⟨a, es, n, h1, h2, h3⟩ := hk
  refine pe_weak (pe_cmpR (op_in_kd h2) he (pe_glob (v := .ref a) hg h1 rfl hd) hm) fun σ H Q h => ?_
  obtain ⟨S, env, P, q⟩ := h
  refine stE P q fun d v H1 fp e1 hv hp q => ?_
  obtain ⟨z, ea, q⟩ := Out.of q.bind
  cases d <;> simp only [strOf, reduceCtorEq, Option.some.injEq] at ea
  subst ea
  simp only [Val] at hv
  obtain ⟨rfl, -⟩ := hv
  obtain ⟨r, r1, r2, -⟩ := h3 _
  refine ⟨_, r, rfl, rfl, r1, ?_⟩
  rw [r2]
  exact q _ H1 [] e1 val_bl (by simp)
theorem de_ninK (hk : KDc X.K X.w X.mg x kvs) (he : DE X W e f) (hg : Gl X x := by rfl) (hd : (x == ("__debug__" : Str)) = false := by decide) (hm : behindInMarks .NotIn (.Name x p) = false := by first | exact nomark _ | rfl | with_unfolding_all rfl) :
    DE X W (.Compare e [.NotIn] [.Name x p] pos) (eNinK kvs f) := by
  obtain ⟨a, es, n, h1, h2, h3⟩ := hk
  refine pe_weak (pe_cmpR (op_notIn_kd h2) he (pe_glob (v := .ref a) hg h1 rfl hd) hm) fun σ H Q h => ?_
  obtain ⟨S, env, P, q⟩ := h
  refine stE P q fun d v H1 fp e1 hv hp q => ?_
  obtain ⟨z, ea, q⟩ := Out.of q.bind
  cases d <;> simp only [strOf, reduceCtorEq, Option.some.injEq] at ea
  subst ea
  simp only [Val] at hv
  obtain ⟨rfl, -⟩ := hv
  obtain ⟨r, r1, r2, -⟩ := h3 _
  refine ⟨_, r, rfl, rfl, r1, ?_⟩
  rw [r2]
  exact q _ H1 [] e1 val_bl (by simp)
theorem ix_kd {a : Addr} {es : Array DictEntry} {n : Nat} (D : KDict X.K X.w a es n) : IxR X (fun x y H Q => ∃ (z : Str) (u0 : Value) (v0 : V), x = .ref a ∧ y = .str z ∧ PySem.W.nsIn X.K a z = some (some u0) ∧ RelV v0 u0 ∧ Q v0 H) := by
  intro value slice pins s σ H x y v u Q I rx ry h hs; obtain ⟨z, u0, v0, rfl, rfl, e, r, q⟩ := h
  obtain rfl : v = .ref a := rx
  obtain ⟨t, rfl⟩ := ry
  have hm := PySem.W.mapOf_K (prog := X.prog) (w := X.w) I.kIn D.at_ D.lit
  exact tail_any hm.typeIs slot_dict_getitem.lookup (wpAny_getItem_of (strKind_is X.prog X.w z t) hm (PySem.W.find_K D.at_ e) ⟨v0, H, I.tok _, r, q⟩) hs
theorem de_ixK (hk : KDc X.K X.w X.mg x kvs) (he : DE X W e f) (hg : Gl X x := by rfl) (hd : (x == ("__debug__" : Str)) = false := by decide) (hs : PlainIx e := by exact fun _ _ => rfl) :
    DE X W (.Subscript (.Name x p) e pos) (eIxK kvs f) := by
  obtain ⟨a, es, n, h1, h2, h3⟩ := hk
  refine pe_weak (pe_ix (ix_kd h2) (pe_glob (v := .ref a) hg h1 rfl hd) he hs) fun σ H Q h => ?_
  obtain ⟨S, env, P, q⟩ := h
  refine stE P q fun d v H1 fp e1 hv hp q => ?_
  obtain ⟨z, ea, q⟩ := Out.of q.bind
  cases d <;> simp only [strOf, reduceCtorEq, Option.some.injEq] at ea
  subst ea
  simp only [Val] at hv
  obtain ⟨rfl, -⟩ := hv
  obtain ⟨y, ey, q⟩ := Out.of q
  rw [Option.map_eq_some_iff] at ey
  obtain ⟨y, ey, rfl⟩ := ey
  obtain ⟨r, r1, -, r3⟩ := h3 _
  obtain ⟨t, rfl⟩ := r3 y ey
  exact ⟨_, _, .str y, rfl, rfl, r1, ⟨t, rfl⟩, q _ H1 [] e1 val_str (by simp)⟩
end
/-- entries of texts -/
abbrev EntS (es : List DictEntry) (kvs : List (Str × Str)) : Prop := Paired (fun (e : DictEntry) (p : Str × Str) => (∃ t, e.key = .str p.1 t) ∧ ∃ t, e.val = .str p.2 t) es kvs
theorem ents_find (z : Str) : ∀ {es : List DictEntry} {kvs : List (Str × Str)}, EntS es kvs →
    ∃ r : Option Value, (match es.find? (·.key.isStr z) with | some e => some (some e.val) | none => if es.any (·.refKey) then none else some none) = some r ∧ r.isSome = (kvs.lookup z).isSome ∧ ∀ y, kvs.lookup z = some y → ∃ t, r = some (.str y t)
  | _, _, .nil => ⟨none, rfl, rfl, fun _ h => nomatch h⟩
  | e :: es, (k, v) :: kvs, .cons ⟨⟨t, h1⟩, t2, h2⟩ hr => by
    obtain ⟨r, q1, q2, q3⟩ := ents_find z hr
    have e1 : e.key.isStr z = (k == z) := by rw [h1]; rfl
    have e2 : e.refKey = false := by unfold DictEntry.refKey; rw [h1]
    by_cases c : k = z
    · subst c
      refine ⟨some e.val, ?_, ?_, fun y hy => ?_⟩
      · simp [List.find?_cons, e1]
      · simp [List.lookup_cons]
      · simp [List.lookup_cons] at hy; subst hy; exact ⟨t2, by rw [h2]⟩
    · have c1 : (k == z) = false := by simpa using c
      have c2 : (z == k) = false := by simpa using Ne.symm c
      refine ⟨r, ?_, ?_, fun y hy => ?_⟩
      · rw [List.find?_cons, e1, c1, List.any_cons, e2, Bool.false_or]; exact q1
      · rw [List.lookup_cons, c2]; exact q2
      · rw [List.lookup_cons, c2] at hy; exact q3 y hy
theorem kdc_mk {K : PySem.W.Frag} {w : World} {mg : Str → Option Value} {x : Str} {a : Addr} {o : Obj} {es : Array DictEntry} {n : Nat} (kvs : List (Str × Str)) (hm : mg x = some (.ref a)) (hw : He.dicW K a = some (He.keysIn w.params (kvs.map (·.1)))) (l : K.lookup a = some o) (d : o.data = .dict es n) (hv : EntS es.toList kvs) : KDc K w mg x kvs := by
  obtain ⟨es', n', h⟩ := He.dicW_ok hw
  refine ⟨a, es', n', hm, h, fun z => ?_⟩
  obtain ⟨r, q1, q2, q3⟩ := ents_find z hv
  refine ⟨r, ?_, q2, q3⟩
  unfold PySem.W.nsIn
  rw [l]
  obtain ⟨oc, od, dt, osl⟩ := o
  simp only at d
  subst d
  exact q1
end DL
set_option Elab.async false
set_option linter.all false
set_option maxHeartbeats 2000000
namespace DL
open PySem PySem.Spec PyProof.Rows L2
/-! ### a tuple of tuples of numbers at the top -/
def KTT (K : PySem.W.Frag) (a : Addr) (rows : List (List Int)) : Prop := ∃ vs, KTup K a vs ∧ Paired (fun (v : V) (r : List Int) => ∃ b, v = .ref b ∧ KTup K b (r.map V.int)) vs rows
def ktt (rows : List (List Int)) : D := .kt (rows.map fun r => .kt (r.map D.int))
section
variable {X : Cx} {W : WX} {x : Str} {p : Pos}
theorem vall_rows (K : PySem.W.Frag) (mg : Str → Option Value) (H : Hp) : ∀ {vs : List V} {rows : List (List Int)}, Paired (fun (v : V) (r : List Int) => ∃ b, v = .ref b ∧ KTup K b (r.map V.int)) vs rows → VAll K mg H (rows.map fun r => D.kt (r.map D.int)) vs []
  | _, _, .nil => .nil
  | _, _, .cons ⟨b, rfl, hk⟩ hr => VAll.cons (f := []) (g := []) (by unfold Val; exact ⟨b, _, rfl, hk, vall_ints⟩) (vall_rows K mg H hr)
theorem de_globTT (rows : List (List Int)) (hm : ∃ a, X.mg x = some (.ref a) ∧ KTT X.K a rows) (hg : Gl X x := by rfl) (hd : (x == ("__debug__" : Str)) = false := by decide) : DE X W (.Name x p) (eC (ktt rows)) := by
  obtain ⟨a, hm, vs, hk, hp⟩ := hm
  exact de_glob hm (v := .ref a) rfl (fun H => by unfold ktt Val; exact ⟨a, vs, rfl, hk, vall_rows _ _ _ hp⟩) hg hd
end
end DL
set_option Elab.async false
set_option linter.all false
set_option maxRecDepth 100000
set_option maxHeartbeats 1000000
namespace DL
open PySem PySem.Spec PyProof.Rows L2
/-! ### {k: v} with a tuple for a key -/
section
variable {X : Cx}
def tDisp1T (tk tv : TE) : TE := fun σ H Q => ∀ p, H p = none → tk σ (upd H p (.dT [])) fun x H1 => tv σ H1 fun y H2 => H2 p = some (.dT []) ∧ ∃ (key : List Key) (b : Addr), x = .ref b ∧ H2 b = some (.tup (key.map kV)) ∧ Q (.ref p) (upd H2 p (.dT [(key, y)]))
theorem pe_disp1T {pos : Pos} {k v : Expr} {tk tv : TE} (hu : X.A.units < cLine) (hk : PE X k tk) (hv : PE X v tv) : PE X (.Dict [some k] [v] pos) (tDisp1T tk tv) := by
  refine ⟨fun pins s σ H Q I q => ?_⟩; have hn := I.hok.fresh (Nat.le_refl s.heap.objs.size)
  have I1 := I.laid (a := s.heap.objs.size) (o := .dT []) (h' := s.heap.push { cls := .type "dict", data := .dict #[] }) (t' := s.toks) (fun _ _ q => Heap.get?_push_of_some _ q) (Nat.le_refl _) (dt_empty s.heap I.big)
  have room : (tupleKind (mixKind X.prog X.w)).room X.A := hu
  rw [arm_eval_Dict, zip_pairTrees [some k] [v] X.env pos rfl rfl, dictDisplay_pairs (pairTrees [some k] [v] X.env pos) (by simp [pairTrees]) (by simp [pairTrees])]
  refine wpAny_bind (wpAny_standAt (wpAny_bind (wpAny_subDictH (knd := tupleKind (mixKind X.prog X.w)) (Q := fun d s' => wpAny (model X.prog X.w) X.A (pure (Value.ref d)) _ X.xe s') room (by simp [pairTrees]) ?_)))
  refine pairTrees_cons_walk (thn (hk.run pins _ σ _ _ I1 (q _ hn)) fun u1 s1 ⟨x, H1, I1', rx, q1⟩ => thn (hv.run pins s1 σ H1 _ I1' q1) fun u2 s2 ⟨y, H2, I2, ry, e, key, b, ex, eb, q2⟩ => pairTrees_nil_walk ?_)
  subst ex
  have eu : u1 = Value.ref b := rx
  subst eu
  obtain ⟨z1, z2, old, z3, z4⟩ := dt_of I2.hok e
  cases z3
  refine ⟨[(key, b, u2)], ⟨rfl, rfl, key_of I2.hok eb, trivial⟩, z4, fun h' tk after same => wpAny_pure ⟨.ref s.heap.objs.size, _, ?_, rfl, q2⟩⟩
  have kept : ∀ c ys, H2 c = some (.tup ys) → (upd H2 s.heap.objs.size (.dT [(key, y)])) c = some (.tup ys) := fun c ys ec => by
    have : c ≠ s.heap.objs.size := fun z => by subst z; rw [e] at ec; cases ec
    rw [upd_ne this]; exact ec
  obtain ⟨o, es, ep, t1, t2, t3, t4, _, t5⟩ := after
  exact d_write I2 (by rw [e]; trivial) same ⟨o, t1⟩ ⟨(show 1 ≤ 16777216 by decide), z2, _, (show KT H2 [(key, y)] [(key, b, u2)] from .cons ⟨rfl, eb, ry⟩ .nil).keeps kept, o, es, ep, t1, t2, t3, t4, t5⟩
end
end DL
namespace DL
open PySem PySem.Spec PyProof.Rows L2
def eDisp1 (f g : En → R D) (env : En) : R D := f env >>= fun k => g env >>= fun d => R.of (storeD (.dt [] []) k d)
section
variable {X : Cx} {W : WX} {k v : Expr} {f g : En → R D} {pos : Pos}
theorem df_disp1 (hu : X.A.units < cLine) (hk : DE X W k f) (hv : DF X W v g) : DF X W (.Dict [some k] [v] pos) (eDisp1 f g) := pe_weak (pe_disp1T hu hk hv) fun σ H Q ⟨S, env, P, q⟩ => by
  intro p hp
  have e0 : Sm H (upd H p (.dT [])) := fun b o hb => by rw [upd_ne (ne_of_none hb hp)]; exact hb
  refine stE (P.sm e0) (q.sm e0) fun d x H1 fk e1 hkv hkp q => ?_
  refine ⟨S, env, (P.sm e0).sm e1, q.bind.imp fun d2 q y H2 fz e2 hz nz hzp => ?_⟩
  have hpe : H2 p = some (.dT []) := e2 _ _ (e1 _ _ upd_same)
  refine ⟨hpe, ?_⟩
  obtain ⟨acc, hst, q⟩ := Out.of q
  have hvp : Val X.K X.mg H2 (.dt [] []) (.ref p) [p] := by
    simp only [Val]
    exact ⟨p, [], [], rfl, rfl, .inl hpe, rfl, VAll.nil⟩
  have old : ∀ b ∈ [p], b ∉ fz := fun b hb w => by
    rw [List.mem_singleton.mp hb] at w
    have h4 := (hzp p w).1
    rw [e1 _ _ upd_same] at h4
    cases h4
  obtain ⟨o, f', put, mo, hv6, nd6, hin, hd6⟩ := store_dict hst rfl hvp (by rw [hpe]; trivial) (hkv.sm e2) hz (by simp) nz old
  rcases put with ⟨kvs, kk, e, -⟩ | ⟨kvs, kk, b, e, ey, eb, -, eH⟩
  · rw [hpe] at e; cases e
  · rw [hpe] at e
    cases e
    refine ⟨kk, b, ey, eb, ?_⟩
    have eH' : upd H2 p o = upd H2 p (.dT [(kk, y)]) := eH
    rw [← eH']
    refine q _ _ _ ?_ hv6 nd6 fun b hb => ?_
    · exact fun b o' hb => by rw [upd_ne (ne_of_none hb hp)]; exact e2 _ _ (e1 _ _ (e0 _ _ hb))
    · by_cases c : b = p
      · subst c; exact ⟨hp, by rw [upd_same]; exact mo⟩
      · rw [upd_ne c]
        rcases List.mem_cons.mp hb with w | w
        · exact absurd w c
        · rcases hin b w with z | z
          · cases z
          · exact ⟨(e0.trans e1).back (hzp b z).1, (hzp b z).2⟩
end
end DL
set_option Elab.async false
set_option linter.all false
set_option maxRecDepth 100000
set_option maxHeartbeats 2000000
namespace DL
open PySem PySem.Spec PyProof.Rows L2
/-! ### x = xs.pop(0) -/
def popTo0 (i j : Nat) (xs : List D) (env : En) : Fl := match xs[0]? with
  | some d => if immAll xs = true ∧ i < env.length ∧ i ≠ j then .nx ((env.set j (.ow (.lst (xs.drop 1)))).set i (.ow d)) else .no
  | none => .no
def sPop0 (i j : Nat) (env : En) : Fl := onList j env fun xs => popTo0 i j xs env
section
variable {X : Cx} {W : WX} {pos cpos apos px py ip : Pos} {x y : Str} {ik : Nat}
theorem ds_pop0 {i j : Nat} (hy : PE X (.Name y py) (tVar j)) (hN : X.N.Nodup) (hi : X.N[i]? = some x := by rfl) (hx : Loc X.env.scope x := by first | exact Or.inl rfl | exact Or.inr rfl) (hbase : attributeBase (.Name y py) "pop" X.env (eval (.Name y py) X.env) = eval (.Name y py) X.env := by rfl)
    (hline : (apos.endLine == cpos.line) = true := by rfl)
    (hfew : ((backTo cpos (starEach [.Constant (.int 0) ik ip] X.env)).all (fun x => !x.1) && (backToKw cpos (keywordEach [] X.env)).all (fun x => x.1.isSome)
      && decide (([.Constant (.int 0) ik ip] : List Expr).length + ([] : List Keyword).length + (if ([] : List Keyword).isEmpty then 0 else 1) < 30)) = true := by rfl)
    (hst : starEach [.Constant (.int 0) ik ip] X.env = (false, eval (.Constant (.int 0) ik ip) X.env) :: starEach [] X.env := by rfl) (hplain : (backTo cpos (starEach [] X.env)).any (·.1) = false := by rfl)
    (hs : swapsWith (.Call (.Attribute (.Name y py) "pop" apos) [.Constant (.int 0) ik ip] [] cpos) (some (.Name x px)) pos.line X.env = pure false := by rfl) (hf : X.fn x = true ∨ X.env.scope.names.lookup x = some .local := by first | exact .inl rfl | exact .inr rfl | assumption) :
    DS X W (.Assign [.Name x px] (.Call (.Attribute (.Name y py) "pop" apos) [.Constant (.int 0) ik ip] [] cpos) pos) (sPop0 i j) :=
  ps_weak (ps_set hN hi hx (pe_bm PySem.F.plainAttrs_list PySem.F.slot_list_pop PySem.F.type_list_pop mt_popAt hy (pa_cons pe_int pa_nil) hbase hfew hline hst hplain) hs hf) fun D σ H ⟨Z, env, E, g⟩ => by
  obtain ⟨fps, E⟩ := E
  obtain ⟨xs, hj, g⟩ := Go.list g
  obtain ⟨a, vs, fl, s1, ef, ha, hvs, nd⟩ := E.list hj
  refine ⟨_, s1, .inl ⟨rfl, vs, .inl (.inl ha)⟩, ?_⟩
  unfold popTo0 at g
  split at g
  · rename_i d hd
    split at g
    · rename_i hc
      obtain ⟨v, fd, q1, q2, q3⟩ := hvs.get hd
      have hfl := VAll.imm _ hvs hc.1
      subst hfl
      have hfd := Val.imm _ q2 (imm_sub hc.1 (List.mem_of_getElem? hd))
      subst hfd
      have hlen := hvs.length
      obtain ⟨g1, ht, hg1⟩ := hvs.drop 1
      have hg : g1 = [] := by
        cases g1 with
        | nil => rfl
        | cons b _ => exact nomatch hg1 b List.mem_cons_self
      subst hg
      obtain ⟨fps', E2, kv⟩ := E.relist (ys := xs.drop 1) (us := vs.drop 1) hj s1 ef ha ht
      have hpos : 0 < vs.length := (List.getElem?_eq_some_iff.mp q1).1
      refine ⟨a, vs, 0, 0, v, rfl, rfl, ha, by decide, by decide, ?_, q1, ?_⟩
      · unfold seqIndex?
        simp
        try (intro h0; subst h0; simp at hpos)
      have e : vs.eraseIdx 0 = vs.drop 1 := by cases vs <;> rfl
      rw [e]
      exact g _ _ ⟨_, E2.put (by simpa using hc.2.1) (kv q2) List.nodup_nil nf fun _ _ _ _ => nf⟩
    · exact g.elim
  · exact g.elim
end
end DL
set_option Elab.async false
set_option linter.all false
set_option maxRecDepth 100000
set_option maxHeartbeats 2000000
namespace DL
open PySem PySem.Spec PyProof.Rows L2
/-! ### sorted(set(xs)), xs a list of pairs of small numbers -/
def pairsD : List D → Option (List (Int × Int))
  | [] => some []
  | .tup [.int x, .int y] :: r => (pairsD r).map ((x, y) :: ·)
  | _ :: _ => none
def leP (a b : Int × Int) : Bool := decide (a.1 < b.1) || (decide (a.1 = b.1) && decide (a.2 ≤ b.2))
def dedupP : List (Int × Int) → List (Int × Int)
  | [] => []
  | p :: r => if p ∈ r then dedupP r else p :: dedupP r
def ssort (ps : List (Int × Int)) : List (Int × Int) := isort leP (dedupP ps)
def in64 (p : Int × Int) : Bool := decide (0 ≤ p.1) && decide (p.1 < 64) && (decide (0 ≤ p.2) && decide (p.2 < 64))
def dP (p : Int × Int) : D := .tup [.int p.1, .int p.2]
def sortSet (ps : List (Int × Int)) : Option (List (Int × Int)) := if ps.length < 64 ∧ ps.all in64 = true then some (ssort ps) else none
def lstD : D → Option (List D)
  | .lst xs => some xs
  | .tup xs => some xs
  | _ => none
def sortSetD (d : D) : Option D := (lstD d).bind fun ds => (pairsD ds).bind fun ps => (sortSet ps).map fun qs => .lst (qs.map dP)
def eSortSet (f : En → R D) (env : En) : R D := f env >>= fun d => R.of (sortSetD d)
theorem mem_dedupP (x : Int × Int) : ∀ l : List (Int × Int), x ∈ dedupP l ↔ x ∈ l
  | [] => by simp [dedupP]
  | p :: r => by
    have ih := mem_dedupP x r
    unfold dedupP
    split
    · rename_i h
      rw [ih, List.mem_cons]
      exact ⟨.inr, fun z => z.elim (fun e => e ▸ h) id⟩
    · rw [List.mem_cons, List.mem_cons, ih]
theorem nodup_dedupP : ∀ l : List (Int × Int), (dedupP l).Nodup
  | [] => by simp [dedupP]
  | p :: r => by
    unfold dedupP
    split
    · exact nodup_dedupP r
    · rename_i h
      exact List.nodup_cons.mpr ⟨fun z => h ((mem_dedupP p r).mp z), nodup_dedupP r⟩
theorem leP_trans (a b c : Int × Int) (h : leP a b = true) (h2 : leP b c = true) : leP a c = true := by
  simp only [leP, Bool.or_eq_true, Bool.and_eq_true, decide_eq_true_eq] at *
  omega
theorem leP_total (a b : Int × Int) : (leP a b || leP b a) = true := by
  simp only [leP, Bool.or_eq_true, Bool.and_eq_true, decide_eq_true_eq]
  omega
theorem leP_anti (a b : Int × Int) (h : leP a b = true) (h2 : leP b a = true) : a = b := by
  simp only [leP, Bool.or_eq_true, Bool.and_eq_true, decide_eq_true_eq] at *
  exact Prod.ext (by omega) (by omega)
theorem ssort_sorted (ps : List (Int × Int)) : (ssort ps).Pairwise fun a b => leP a b = true := by
  unfold ssort
  rw [← isort_eq leP_trans leP_total]
  exact List.pairwise_mergeSort leP_trans leP_total _
theorem perm_of_mem {α : Type} [DecidableEq α] {l m : List α} (h : l.Nodup) (h2 : m.Nodup) (e : ∀ x, x ∈ l ↔ x ∈ m) : l.Perm m := (List.perm_ext_iff_of_nodup h h2).mpr e
theorem ssort_eq {ps qs : List (Int × Int)} (nd : qs.Nodup) (hm : ∀ x, x ∈ qs ↔ x ∈ ps) (hs : qs.Pairwise fun a b => leP a b = true) : qs = ssort ps := by
  refine List.Perm.eq_of_pairwise (fun a b _ _ h1 h2 => leP_anti a b h1 h2) hs (ssort_sorted ps) ?_
  exact (perm_of_mem nd (nodup_dedupP ps) fun x => (hm x).trans (mem_dedupP x ps).symm).trans (isort_perm _).symm
theorem VAll.pairs {K : PySem.W.Frag} {mg : Str → Option Value} {H : Hp} : ∀ {ds : List D} {vs : List V} {f : List Addr} {ps : List (Int × Int)}, VAll K mg H ds vs f → pairsD ds = some ps →
    ∃ ks : List (Addr × List Int), vs = ks.map (fun p => V.ref p.1) ∧ (∀ p ∈ ks, H p.1 = some (.tup (p.2.map V.int))) ∧ ks.map (·.2) = ps.map fun p => [p.1, p.2]
  | [], vs, f, ps, h, e => by
    simp only [VAll] at h
    simp only [pairsD, Option.some.injEq] at e
    subst e; exact ⟨[], h.1, by simp, rfl⟩
  | d :: ds, vs, f, ps, h, e => by
    simp only [VAll] at h
    obtain ⟨v, vr, f1, g1, rfl, -, h1, h2⟩ := h
    unfold pairsD at e
    split at e
    · cases ‹_ :: _ = []›
    · rename_i x y r heq
      cases heq
      obtain ⟨qs, e9, rfl⟩ := Option.map_eq_some_iff.mp e
      obtain ⟨ks, q1, q2, q3⟩ := VAll.pairs h2 e9
      simp only [Val, VAll] at h1
      obtain ⟨a, us, rfl, h3, w1, w2, g3, g4, rfl, -, ⟨rfl, -⟩, w3, w4, g5, g6, rfl, -, ⟨rfl, -⟩, rfl, -⟩ := h1
      refine ⟨(a, [x, y]) :: ks, by rw [q1]; rfl, fun p hp => ?_, by rw [List.map_cons, q3]; rfl⟩
      rcases List.mem_cons.mp hp with rfl | hp
      · exact h3
      · exact q2 p hp
    · cases e
theorem valP {K : PySem.W.Frag} {mg : Str → Option Value} {H : Hp} : ∀ {L : List (Addr × List Int)} {qs : List (Int × Int)}, L.map (·.2) = qs.map (fun p => [p.1, p.2]) → (∀ p ∈ L, H p.1 = some (.tup (p.2.map V.int))) → VAll K mg H (qs.map dP) (L.map fun p => V.ref p.1) []
  | [], [], _, _ => VAll.nil
  | [], _ :: _, h, _ => by cases h
  | _ :: _, [], h, _ => by cases h
  | (a, k) :: L, p :: qs, h, hH => by
    simp only [List.map_cons, List.cons.injEq] at h
    obtain ⟨rfl, h⟩ := h
    have h1 := hH _ List.mem_cons_self
    refine VAll.cons (f := []) (g := []) ?_ (valP h fun p hp => hH p (List.mem_cons_of_mem _ hp))
    unfold dP
    simp only [Val]
    exact ⟨a, [V.int p.1, V.int p.2], rfl, h1, VAll.cons (f := []) (g := []) val_int (VAll.cons (f := []) (g := []) val_int VAll.nil)⟩
theorem sorted_of {L : List (Addr × List Int)} {ps : List (Int × Int)} (hb : ps.all in64 = true) (hin : ∀ p ∈ L, p.2 ∈ ps.map fun p => [p.1, p.2]) (hall : ∀ p ∈ ps, [p.1, p.2] ∈ L.map (·.2)) (nd : (L.map (·.2)).Nodup) (pw : L.Pairwise (fun q r => TS.code 64 q.2 ≤ TS.code 64 r.2)) :
    L.map (·.2) = (ssort ps).map fun p => [p.1, p.2] := by
  have ex : ∀ L : List (Addr × List Int), (∀ p ∈ L, p.2 ∈ ps.map fun p => [p.1, p.2]) → ∃ qs : List (Int × Int), L.map (·.2) = qs.map fun p => [p.1, p.2] := fun L => by
    induction L with
    | nil => intro _; exact ⟨[], rfl⟩
    | cons q L ih =>
      intro h
      obtain ⟨qs, e⟩ := ih fun p hp => h p (List.mem_cons_of_mem _ hp)
      obtain ⟨p, hp, e2⟩ := List.mem_map.mp (h q List.mem_cons_self)
      exact ⟨p :: qs, by rw [List.map_cons, e, List.map_cons, e2]⟩
  obtain ⟨qs, e⟩ := ex L hin
  rw [e]
  have inj : ∀ x y : Int × Int, [x.1, x.2] = [y.1, y.2] → x = y := fun x y h => by
    simp only [List.cons.injEq, and_true] at h
    exact Prod.ext h.1 h.2
  have mem : ∀ x, x ∈ qs ↔ x ∈ ps := fun x => by
    constructor
    · intro hx
      have : [x.1, x.2] ∈ L.map (·.2) := by rw [e]; exact List.mem_map.mpr ⟨x, hx, rfl⟩
      obtain ⟨q, hq, e2⟩ := List.mem_map.mp this
      obtain ⟨p, hp, e3⟩ := List.mem_map.mp (hin q hq)
      rw [← inj p x (by rw [e3, e2])]; exact hp
    · intro hx
      have := hall x hx
      rw [e] at this
      obtain ⟨p, hp, e3⟩ := List.mem_map.mp this
      rw [← inj p x e3]; exact hp
  congr 1
  refine ssort_eq ?_ mem ?_
  · rw [e] at nd
    exact List.Pairwise.of_map _ (fun a b h z => h (by rw [z])) nd
  · have pw2 : (L.map (·.2)).Pairwise fun a b => TS.code 64 a ≤ TS.code 64 b := List.pairwise_map.mpr pw
    rw [e, List.pairwise_map] at pw2
    refine List.Pairwise.imp_of_mem (fun {a b} ha hb' h => ?_) pw2
    rw [code_pair, code_pair] at h
    have ba := List.all_eq_true.mp hb a ((mem a).mp ha)
    have bb := List.all_eq_true.mp hb b ((mem b).mp hb')
    simp only [in64, Bool.and_eq_true, decide_eq_true_eq] at ba bb
    simp only [leP, Bool.or_eq_true, Bool.and_eq_true, decide_eq_true_eq]
    omega
end DL
set_option Elab.async false
set_option linter.all false
set_option maxRecDepth 100000
set_option maxHeartbeats 3200000
/-! ### set(t), t a tuple of tuples of numbers -/
namespace L2
open PySem PySem.Spec PyProof.Rows
abbrev newSetO (w : World) : Obj := { cls := .type "set", dict := none, data := .set #[] 0 (.fresh 0 0 (!w.params.followText "set-order")) }
variable {P : Program} {w : World} {A : Around} {E : Value → Shared → Prop} {s : Shared}
theorem setOfTuple {t0 : Addr} {its : Array Value} (kk : List (Addr × List Int)) {Q : Value → Shared → Prop} (hh : A.handled = none) (ht : s.heap.IsTuple t0 its) (hi : its.toList = kk.map fun p => Value.ref p.1)
    (hT : ∀ p ∈ kk, IsT P w s.heap p.2 p.1) (h64 : kk.length < 64) (room : A.units + 3 < cLine)
    (fin : ∀ (hp : Heap) (tk : Nat) L es ep t, SetTR P w hp s.heap.objs.size L es ep t → Got kk kk.length L → (∀ b o, s.heap.get? b = some o → hp.get? b = some o) → Q (.ref s.heap.objs.size) { s with heap := hp, toks := tk }) :
    wpAny (model P w) A (call (.type "set") [.ref t0]) Q E s := by
  have sz : its.size = kk.length := by have q := congrArg List.length hi; simpa using q
  obtain ⟨c, tl, hmro⟩ := F.called_set.mro; have hmade := F.called_set.made; have hsub := F.called_set.sub
  refine wpAny_call (codeAny_of_tree ?_); show wpAny _ _ (callAny (.type "set") _) _ _ _
  refine wpAny_pure ⟨Code.quiet_builtin _ (by decide +kernel), codeAny_builtin F.entry_type_call ?_⟩; rw [Around.under_plain (weight_type_call_type "set" [.ref t0] []) rfl]
  have h1 := F.called_set.notType; have h2 := F.called_set.canCreate; have hct := F.typeCall_set_1 (.ref t0)
  skip; repeat (any_goals (first | assumption | wp_step))
  refine codeAny_mono (code_set_led1 (.ref t0) (E := E) (Q₁ := fun ob s1 => ob = .ref s.heap.objs.size ∧ s1 = { s with heap := s.heap.push (newSetO w) }) ⟨rfl, rfl⟩) fun r s1 hr => ?_
  cases r with
  | error e => exact hr
  | ok fl =>
    cases fl with
    | ret ob =>
      obtain ⟨rfl, rfl⟩ := hr
      have gS : (s.heap.push (newSetO w)).get? s.heap.objs.size = some (newSetO w) := Heap.get?_push_size _ rfl
      have hT1 : Shared.TypeIs { s with heap := s.heap.push (newSetO w) } (.ref s.heap.objs.size) "set" := ⟨_, gS, rfl⟩
      have hli := F.called_set.init.lookup; have hbi := F.called_set.init.bind (.ref s.heap.objs.size)
      skip; repeat (any_goals (first | assumption | wp_step))
      refine codeAny_mono (codeAny_call_builtin (R := wants (fun r s2 => r = .none ∧ ∃ hp tk L es ep t, s2 = { s with heap := hp, toks := tk } ∧ SetTR P w hp s.heap.objs.size L es ep t ∧ Got kk kk.length L ∧ (∀ b o, s.heap.get? b = some o → hp.get? b = some o)) E)
        F.called_set.init.plain F.entry_set_init (check_set_init_1 hT1 ?_)) fun r2 s2 hr2 => ?_
      · have ht1 : (s.heap.push (newSetO w)).IsTuple t0 its := ht.push _
        obtain ⟨ol, gl, cl, nl, dl⟩ := ht
        obtain ⟨oc, od, odt, osl⟩ := ol
        simp only at cl dl
        subst cl; subst dl
        have gl1 : (s.heap.push (newSetO w)).get? t0 = some { cls := .type "tuple", dict := od, data := .seq its nl, slots := osl } := Heap.get?_push_of_some _ gl
        have z1 := F.sub_tuple_set; have z2 := F.sub_tuple_frozenset
        have z3 : (Value.type "tuple" == Value.type "dict") = false := by decide
        unfold Builtin.«set.__init__» noKeywords Builtin.Frozenset.updateFrom; generalize hPI : pyIter = PI
        wp_walk
        subst hPI
        refine wpAny_pyIter_tuple ht1 ?_; refine wpAny_bind (wpAny_runValue ?_)
        have lt0 : t0 < s.heap.objs.size := Heap.lt_size gl
        have hn3 : A.in1.in1.in1.handled = none := by simp [hh]
        have neI : t0 ≠ (s.heap.push (newSetO w)).objs.size := by rw [Heap.size_push]; exact Nat.ne_of_lt (Nat.lt_succ_of_lt lt0)
        have nin : s.heap.objs.size ∉ [(s.heap.push (newSetO w)).objs.size, t0] := by
          rw [Heap.size_push]; simp only [List.mem_cons, List.not_mem_nil, or_false, not_or]
          exact ⟨Nat.ne_of_lt (Nat.lt_succ_self _), Nat.ne_of_gt lt0⟩
        have val : ∀ (i : Nat) (v : Value), its[i]? = some v → ∃ p, kk[i]? = some p ∧ v = .ref p.1 := fun i v hv => by
          have q : its.toList[i]? = some v := by rw [Array.getElem?_toList]; exact hv
          rw [hi, List.getElem?_map, Option.map_eq_some_iff] at q
          obtain ⟨p, hp, e⟩ := q
          exact ⟨p, hp, e.symm⟩
        have out : ∀ b, s.heap.objs.size ≤ b → s.heap.get? b = none := fun b hb => by
          cases q : s.heap.get? b with
          | none => rfl
          | some o => exact (Nat.lt_irrefl b (Nat.lt_of_lt_of_le (Heap.lt_size q) hb)).elim
        refine set_update_tups ((Walks.tuple hn3 _ t0 neI its).toS) s.heap.objs.size nin kk sz h64 val s.heap hT (out _ (Nat.le_refl _)) (fun b hb => out b (by rw [List.mem_singleton.mp hb, Heap.size_push]; omega)) room (its.size - 0) 0 _ (by omega) (Nat.zero_le _)
          ⟨⟨_, Heap.get?_push_size _ rfl, rfl, rfl⟩, (ht1.push _)⟩ (fun b o e => Heap.get?_push_of_some _ (Heap.get?_push_of_some _ e)) ?hS0 ?hR
        case hS0 =>
          have gg : ((s.heap.push (newSetO w)).push { cls := .type "tuple_iterator", data := .fields #[.ref t0, .int 0 0] }).get? s.heap.objs.size = some (newSetO w) := Heap.get?_push_of_some _ gS
          exact ⟨[], #[], 0, _, setTR_fresh gg, Got.zero kk⟩
        case hR =>
          intro sb L es ep t hm hSb gb kp
          obtain ⟨hp, g2, d2, tk2, o2⟩ := sb
          have eg : g2 = s.gens := hm.gens; have ed : d2 = s.drawn := hm.drawn
          have eo : o2 = s.os := hm.os
          subst eg ed eo
          show wpAny _ _ _ _ _ _
          refine wpAny_pure ?_
          show wpAny _ _ (ret Value.none) _ _ _; rw [sz] at gb
          exact wpAny_pure ⟨rfl, hp, tk2, L, es, ep, t, rfl, hSb, gb, kp⟩
      · cases r2 with
        | error e => exact hr2
        | ok fl2 =>
          cases fl2 with
          | ret r =>
            obtain ⟨rfl, hp, tk, L, es, ep, t, rfl, hSb, gb, kb⟩ := hr2
            skip; repeat (any_goals (first | assumption | wp_step))
            exact fin _ _ _ _ _ _ hSb gb kb
          | _ => exact hr2.elim
    | _ => exact hr.elim
end L2
set_option Elab.async false
set_option linter.all false
set_option maxRecDepth 100000
set_option maxHeartbeats 2000000
namespace DL
open PySem PySem.Spec PyProof.Rows L2
/-! ### sorted(set(xs)), xs a list or a tuple of pairs -/
def rSetOfLT (K : PySem.W.Frag) (P : Program) (w : World) : List V → Hp → VK → Prop := fun xs H Q => ∃ (l : Addr) (ks : List (Addr × List Int)), xs = [V.ref l] ∧ (SqL K H l (ks.map fun p => V.ref p.1) ∨ SqT K H l (ks.map fun p => V.ref p.1)) ∧ (∀ p ∈ ks, SqT K H p.1 (p.2.map V.int)) ∧ ks.length < 64 ∧ ∀ a L, H a = none → (∀ p ∈ L, p ∈ ks) → (∀ p ∈ ks, p.2 ∈ L.map (·.2)) → Q (.ref a) (upd H a (SetTO P w a L))
theorem cr_setOfLT {X : Cx} (hc : X.calm = true) (hu : X.A.units + 64 < cLine) : CallR X (.type "set") (rSetOfLT X.K X.prog X.w) := by
  intro pins s σ H xs us Q I r ⟨l, ks, exs, hl, hk, hf, q⟩
  rcases hl with hl | hl
  · exact cr_setOfT hc hu pins s σ H xs us Q I r ⟨l, ks, exs, hl, hk, hf, q⟩
  subst exs
  rw [Vals.ref1 r]
  obtain ⟨its, rv, pl, hz⟩ := I.tuple hl
  have free : H s.heap.objs.size = none := I.hok.fresh (Nat.le_refl _)
  refine setOfTuple ks (I.ok.hd hc) (show s.heap.IsTuple l its.toArray from pl) (by simpa using refs_of_vals rv) (fun p hp => I.isT (hk p hp)) hf (by omega) fun hp tk L es ep t R g k => ⟨.ref s.heap.objs.size, upd H s.heap.objs.size (SetTO X.prog X.w s.heap.objs.size L), I.laid (t' := tk) k (Nat.le_refl _) (setTO_new R.t0), rfl, ?_⟩
  exact q _ L free (fun p hp => List.mem_of_mem_take (g.sub p hp)) fun p hp => g.all p (by rw [List.take_length]; exact hp)
theorem valLT {K : PySem.W.Frag} {mg : Str → Option Value} {H : Hp} {d : D} {v : V} {fp : List Addr} {ds : List D} (hv : Val K mg H d v fp) (h : lstD d = some ds) : ∃ a vs f, v = .ref a ∧ (SqL K H a vs ∨ SqT K H a vs) ∧ VAll K mg H ds vs f := by
  cases d <;> simp only [lstD, reduceCtorEq, Option.some.injEq] at h
  · subst h
    simp only [Val] at hv
    obtain ⟨a, vs, e1, h1, h2⟩ := hv
    exact ⟨a, vs, _, e1, .inr (.inl (.inl h1)), h2⟩
  · subst h
    simp only [Val] at hv
    obtain ⟨a, vs, f, e1, -, h1, h2⟩ := hv
    exact ⟨a, vs, f, e1, .inl (.inl (.inl h1)), h2⟩
section
variable {X : Cx} {W : WX} {e : Expr} {f : En → R D} {p p2 pos pos2 : Pos}
theorem df_sortSet (hu : X.A.units + 64 < cLine) (h1 : X.mg "sorted" = none) (h2 : X.mg "set" = none) (he : DE X W e f) (g1 : Gl X "sorted" := by rfl) (g2 : Gl X "set" := by rfl) (hc : X.calm = true := by rfl)
    (s1 : starEach [.Call (.Name "set" p2) [e] [] pos2] X.env = (false, eval (.Call (.Name "set" p2) [e] [] pos2) X.env) :: starEach [] X.env := by rfl) (l1 : (backTo pos (starEach [] X.env)).any (·.1) = false := by rfl)
    (s2 : starEach [e] X.env = (false, eval e X.env) :: starEach [] X.env := by rfl) (l2 : (backTo pos2 (starEach [] X.env)).any (·.1) = false := by rfl) :
    DF X W (.Call (.Name "sorted" p) [.Call (.Name "set" p2) [e] [] pos2] [] pos) (eSortSet f) :=
  pe_weak (pe_callB (cr_sortedT hc) g1 h1 rfl (pa_cons (pe_callTy (cr_setOfLT hc hu) g2 h2 rfl (pa_cons he pa_nil s2) (by decide) (by decide) s2 l2) pa_nil s1) (by decide) (by decide) s1 l1) fun σ H Q ⟨S, env, P, q⟩ => by
  refine stE P q fun d v H1 fp e1 hv hp q => ?_
  obtain ⟨r, er, q9⟩ := Out.of q
  clear q
  unfold sortSetD at er
  obtain ⟨ds, e2, er⟩ := Option.bind_eq_some_iff.mp er
  obtain ⟨ps, e3, er⟩ := Option.bind_eq_some_iff.mp er
  obtain ⟨qs, e4, rfl⟩ := Option.map_eq_some_iff.mp er
  unfold sortSet at e4
  split at e4
  · rename_i hlt
    cases e4
    obtain ⟨a, vs, f2, rfl, ha, hvs⟩ := valLT hv e2
    obtain ⟨ks, rfl, hk, hks⟩ := VAll.pairs hvs e3
    have len : ks.length < 64 := by
      have := congrArg List.length hks
      rw [List.length_map, List.length_map] at this
      omega
    refine ⟨a, ks, rfl, ha, fun p hp => .inl (.inl (hk p hp)), len, fun b L hb hsub hall => ?_⟩
    have hL : ∀ p ∈ L, (upd H1 b (SetTO X.prog X.w b L)) p.1 = some (.tup (p.2.map V.int)) := fun p hp => by
      have := hk p (hsub p hp)
      rw [upd_ne (ne_of_none this hb)]; exact this
    have hmem : ∀ p ∈ ks, p.2 ∈ ps.map fun p => [p.1, p.2] := fun p hp => by rw [← hks]; exact List.mem_map.mpr ⟨p, hp, rfl⟩
    refine ⟨b, L, 2, 64, rfl, upd_same, fun p hp => .inl (.inl (hL p hp)), by decide, fun p hp => ?_, fun L' c pm nd few pw hc' => ?_⟩
    · obtain ⟨p', hp', e5⟩ := List.mem_map.mp (hmem p (hsub p hp))
      rw [← e5]
      have b1 := List.all_eq_true.mp hlt.2 p' hp'
      simp only [in64, Bool.and_eq_true, decide_eq_true_eq] at b1
      refine ⟨rfl, fun m hm => ?_⟩
      simp only [List.mem_cons, List.not_mem_nil, or_false] at hm
      rcases hm with rfl | rfl
      · exact b1.1
      · exact b1.2
    · have inL : ∀ p ∈ L', p ∈ L := fun p hp => pm.mem_iff.mp hp
      have es := sorted_of (L := L') hlt.2 (fun p hp => hmem p (hsub p (inL p hp))) (fun p hp => by
        have : [p.1, p.2] ∈ ks.map (·.2) := by rw [hks]; exact List.mem_map.mpr ⟨p, hp, rfl⟩
        obtain ⟨k, hk2, e5⟩ := List.mem_map.mp this
        have := hall k hk2
        rw [e5] at this
        exact (pm.map (·.2)).mem_iff.mpr this) nd pw
      have sm1 : Sm H1 (upd H1 b (SetTO X.prog X.w b L)) := fun z o hz => by rw [upd_ne (ne_of_none hz hb)]; exact hz
      have sm2 : Sm (upd H1 b (SetTO X.prog X.w b L)) (upd (upd H1 b (SetTO X.prog X.w b L)) c (.lst (L'.map fun q => V.ref q.1))) := fun z o hz => by rw [upd_ne (ne_of_none hz hc')]; exact hz
      refine q9 _ _ [c] ((e1.trans sm1).trans sm2) ?_ (by simp) fun z hz => ?_
      · simp only [Val]
        exact ⟨c, _, [], rfl, rfl, upd_same, valP es fun p hp => sm2 _ _ (hL p (inL p hp))⟩
      · rw [List.mem_singleton.mp hz]
        exact ⟨(e1.trans sm1).back hc', by rw [upd_same]; trivial⟩
  · cases e4
end
end DL
set_option Elab.async false
set_option linter.all false
set_option maxHeartbeats 2000000
namespace DL
open PySem PySem.Spec PyProof.Rows L2
/-! ### x = y, y not used any more -/
section
variable {K : PySem.W.Frag} {mg : Str → Option Value} {Z H : Hp} {env : En} {σ : L2.St} {fps : Nat → List Addr}
theorem get_forget {j i : Nat} {s : Sl} (h : (env.set j .un)[i]? = some s) (hs : s ≠ .un) : i ≠ j ∧ env[i]? = some s := by
  rw [List.getElem?_set] at h
  split at h
  · split at h
    · cases h; exact absurd rfl hs
    · cases h
  · rename_i c; exact ⟨fun e => c e.symm, h⟩
theorem look_forget {j i : Nat} {d : D} (h : look (env.set j .un) i = some d) : i ≠ j ∧ look env i = some d := by
  unfold look at h ⊢
  obtain ⟨s, q, hs⟩ := Option.bind_eq_some_iff.mp h
  obtain ⟨q1, q2⟩ := get_forget q (by rintro rfl; cases hs)
  exact ⟨q1, by rw [q2]; exact hs⟩
theorem ER.forget (E : ER K mg Z env σ H fps) (j : Nat) : ER K mg Z (env.set j .un) σ H fps where
  len := by rw [List.length_set]; exact E.len
  val := fun i d h => E.val i d (look_forget h).2
  own := fun i d h => by
    obtain ⟨h1, h2, h3⟩ := E.own i d (get_forget h (by intro z; cases z)).2
    exact ⟨h1, h2, fun k d' hk hl => h3 k d' hk (look_forget hl).2⟩
  keep := E.keep
end
def sMove (i j : Nat) (env : En) : Fl := match env[j]? with
  | some (.ow d) => if i < env.length ∧ i ≠ j then .nx ((env.set j .un).set i (.ow d)) else .no
  | _ => .no
section
variable {X : Cx} {W : WX} {x y : Str} {py px pos : Pos}
theorem ds_move {i j : Nat} (h : PE X (.Name y py) (tVar j)) (hN : X.N.Nodup) (hi : X.N[i]? = some x := by rfl) (hx : Loc X.env.scope x := by first | exact Or.inl rfl | exact Or.inr rfl) (hs : swapsWith (.Name y py) (some (.Name x px)) pos.line X.env = pure false := by rfl)
    (hf : X.fn x = true ∨ X.env.scope.names.lookup x = some .local := by first | exact .inl rfl | exact .inr rfl | assumption) : DS X W (.Assign [.Name x px] (.Name y py) pos) (sMove i j) := ps_weak (ps_set hN hi hx h hs hf) fun D σ H ⟨Z, env, E, g⟩ => by
  obtain ⟨fps, E⟩ := E
  unfold sMove at g
  split at g
  · rename_i d hd
    split at g
    · rename_i hl
      obtain ⟨v, h1, h2⟩ := E.val j d (look_ow hd)
      obtain ⟨n1, n2, n3⟩ := E.own j d hd
      refine ⟨v, h1, g _ _ ⟨_, (E.forget j).put (by rw [List.length_set]; exact hl.1) h2 n1 n2 fun k d' hk ho => ?_⟩⟩
      obtain ⟨q1, q2⟩ := look_forget ho
      exact n3 k d' q1 q2
    · exact g.elim
  · exact g.elim
end
end DL
set_option Elab.async false
set_option linter.all false
set_option maxHeartbeats 2000000
namespace DL
open PySem PySem.Spec PyProof.Rows L2
/-! ### (a, b) >= (c, d) -/
def geX : D → D → Option D
  | .tup [.int a, .int b], .tup [.int c, .int d] => some (.bl (if a = c then (if b = d then true else decide (d ≤ b)) else decide (c ≤ a)))
  | x, y => geD x y
theorem tupPair {K : PySem.W.Frag} {mg : Str → Option Value} {H : Hp} {a b : Int} {v : V} {f : List Addr} (h : Val K mg H (.tup [.int a, .int b]) v f) : ∃ p, v = .ref p ∧ H p = some (.tup [.int a, .int b]) := by
  simp only [Val, VAll] at h
  obtain ⟨p, us, rfl, h3, w1, w2, g3, g4, rfl, -, ⟨rfl, -⟩, w3, w4, g5, g6, rfl, -, ⟨rfl, -⟩, rfl, -⟩ := h
  exact ⟨p, rfl, h3⟩
theorem two_items {its : List Value} {a b : Int} (h : Vals [V.int a, V.int b] its) : ∃ t u, its = [.int a t, .int b u] := by
  cases h with
  | cons h1 h => cases h with
    | cons h2 h => cases h with
      | nil =>
        obtain ⟨t, rfl⟩ := h1
        obtain ⟨u, rfl⟩ := h2
        exact ⟨t, u, rfl⟩
theorem or_geX {X : Cx} (hu : X.A.units < cLine) : OpR X (compareOp .GtE) (rD X.K X.mg geX) := by
  intro pins s σ H x y v u Q I rx ry ⟨dx, dy, fx, fy, hx, hy, d, e, q⟩
  unfold geX at e
  split at e
  · rename_i a b c d2
    cases e
    obtain ⟨p1, rfl, h1⟩ := tupPair hx
    obtain ⟨p2, rfl, h2⟩ := tupPair hy
    cases rx
    cases ry
    obtain ⟨its, r1, t1, _⟩ := I.tuple (.inl (.inl h1))
    obtain ⟨its2, r2, t2, _⟩ := I.tuple (.inl (.inl h2))
    obtain ⟨n1, n2, rfl⟩ := two_items r1
    obtain ⟨n3, n4, rfl⟩ := two_items r2
    have R := Ob.RcOp.tuples_ge (A := X.A) (s := s) (e := fun j => if j = 0 then decide (a = c) else decide (b = d2)) (r := fun j => if j = 0 then decide (c ≤ a) else decide (d2 ≤ b)) t1 t2 hu (fun j z1 z2 => by
      have z : ∀ m n : Int, (m == n) = decide (m = n) := fun m n => by
        by_cases w : m = n
        · rw [decide_eq_true w]; exact beq_iff_eq.mpr w
        · rw [decide_eq_false w]; exact beq_eq_false_iff_ne.mpr w
      have hj : j = 0 ∨ j = 1 := by simp at z1; omega
      rcases hj with rfl | rfl
      · simp only [if_true]; rw [← z]; exact SeqAt.EqAt.int_int _ _ _ _
      · simp only [Nat.one_ne_zero, if_false]; rw [← z]; exact SeqAt.EqAt.int_int _ _ _ _) (fun j z1 z2 _ => by
      have hj : j = 0 ∨ j = 1 := by simp at z1; omega
      rcases hj with rfl | rfl
      · simp only [if_true]; exact Ob.RcOp.ge_int _ _ _ _
      · simp only [Nat.one_ne_zero, if_false]; exact Ob.RcOp.ge_int _ _ _ _)
    refine R _ _ _ _ ⟨.bl _, H, I, rfl, ?_⟩
    have ev : Ob.lexAt (fun j => if j = 0 then decide (a = c) else decide (b = d2)) (fun j => if j = 0 then decide (c ≤ a) else decide (d2 ≤ b)) (decide ((#[Value.int a n1, Value.int b n2] : Array Value).size ≥ (#[Value.int c n3, Value.int d2 n4] : Array Value).size)) 0 2 = (if a = c then (if b = d2 then true else decide (d2 ≤ b)) else decide (c ≤ a)) := by
      rw [Ob.lexAt_succ, Ob.lexAt_succ, Ob.lexAt_zero]
      by_cases w1 : a = c <;> by_cases w2 : b = d2 <;> simp [w1, w2]
    have q2 : Q (.bl (if a = c then (if b = d2 then true else decide (d2 ≤ b)) else decide (c ≤ a))) H := q _ H [] (Sm.refl H) val_bl nf
    rw [← ev] at q2
    exact q2
  · exact or_ge pins s σ H x y v u Q I rx ry ⟨dx, dy, fx, fy, hx, hy, d, e, q⟩
end DL
set_option Elab.async false
set_option linter.all false
set_option maxRecDepth 100000
set_option maxHeartbeats 2000000
namespace DL
open PySem PySem.Spec PyProof.Rows L2
/-! ### a + b, both new all through: so is the result -/
def addS : D → D → Option D
  | .lst xs, .lst ys => if xs.length + ys.length ≤ sizeLine then some (.lst (xs ++ ys)) else none
  | .tup xs, .tup ys => if xs.length + ys.length ≤ sizeLine then some (.tup (xs ++ ys)) else none
  | _, _ => none
def rF (K : PySem.W.Frag) (mg : Str → Option Value) : R2 := fun x y H Q => ∃ dx dy fx fy, Val K mg H dx x fx ∧ Val K mg H dy y fy ∧ fx.Nodup ∧ fy.Nodup ∧ (∀ a ∈ fx, a ∉ fy) ∧ (∀ a ∈ fx, Mut (H a)) ∧ (∀ a ∈ fy, Mut (H a)) ∧ ∃ d, addS dx dy = some d ∧
  ∀ v H' fp, Sm H H' → Val K mg H' d v fp → fp.Nodup → (∀ a ∈ fp, (a ∈ fx ∨ a ∈ fy ∨ H a = none) ∧ Mut (H' a)) → Q v H'
section
variable {X : Cx} {W : WX}
theorem or_catS : OpR X (binaryOp .Add) (rF X.K X.mg) := by
  intro pins s σ H x y v u Q I rx ry ⟨dx, dy, fx, fy, hx, hy, nx, ny, dj, mx, my, d, e, q⟩
  unfold addS at e
  split at e
  · split at e
    · cases e
      rename_i hz
      simp only [Val] at hx hy
      obtain ⟨a, vs, f, e1, e2, h1, h2⟩ := hx
      obtain ⟨b, us, g, e3, e4, h3, h4⟩ := hy
      subst e2 e4
      refine op_cat pins s σ H x y v u Q I rx ry ⟨a, b, vs, us, e1, e3, h1, h3, by rw [h2.length, h4.length]; exact hz, fun p hp => ?_⟩
      have all := h2.append h4
      have old : ∀ c ∈ f ++ g, H c ≠ none := fun c hc => by
        rcases List.mem_append.mp hc with z | z
        · have := mx c (List.mem_cons_of_mem _ z); intro w; rw [w] at this; exact this
        · have := my c (List.mem_cons_of_mem _ z); intro w; rw [w] at this; exact this
      have nd : (f ++ g).Nodup := List.nodup_append.mpr ⟨(List.nodup_cons.mp nx).2, (List.nodup_cons.mp ny).2, fun c hc d hd e => dj c (List.mem_cons_of_mem _ hc) (e ▸ List.mem_cons_of_mem _ hd)⟩
      refine q _ _ _ (Sm.new hp) (val_lst upd_same (all.sm (Sm.new hp))) (List.nodup_cons.mpr ⟨fun z => old p z hp, nd⟩) fun c hc => ?_
      rcases List.mem_cons.mp hc with rfl | hc
      · exact ⟨.inr (.inr hp), by rw [upd_same]; trivial⟩
      · have hne : c ≠ p := fun z => old c hc (z ▸ hp)
        rw [upd_ne hne]
        rcases List.mem_append.mp hc with z | z
        · exact ⟨.inl (List.mem_cons_of_mem _ z), mx c (List.mem_cons_of_mem _ z)⟩
        · exact ⟨.inr (.inl (List.mem_cons_of_mem _ z)), my c (List.mem_cons_of_mem _ z)⟩
    · cases e
  · split at e
    · cases e
      rename_i xs ys hz
      simp only [Val] at hx hy
      obtain ⟨a, vs, e1, h1, h2⟩ := hx
      obtain ⟨b, us, e3, h3, h4⟩ := hy
      have all := h2.append h4
      have nd : (fx ++ fy).Nodup := List.nodup_append.mpr ⟨nx, ny, fun c hc d hd e => dj c hc (e ▸ hd)⟩
      have rest : ∀ {H' : Hp}, Sm H H' → ∀ c ∈ fx ++ fy, (c ∈ fx ∨ c ∈ fy ∨ H c = none) ∧ Mut (H' c) := fun {H'} sm c hc => by
        rcases List.mem_append.mp hc with z | z
        · exact ⟨.inl z, mut_sm sm (mx c z)⟩
        · exact ⟨.inr (.inl z), mut_sm sm (my c z)⟩
      refine op_catA pins s σ H x y v u Q I rx ry ⟨a, b, vs, us, e1, e3, .inl (.inl h1), .inl (.inl h3), by rw [h2.length, h4.length]; exact hz, fun e0 => ?_, fun _ e0 => ?_, fun _ _ p hp => ?_⟩
      · subst e0
        exact q _ H _ (Sm.refl H) (val_tup h3 (by simpa using all)) nd (rest (Sm.refl H))
      · subst e0
        exact q _ H _ (Sm.refl H) (val_tup h1 (by simpa using all)) nd (rest (Sm.refl H))
      · exact q _ _ _ (Sm.new hp) (val_tup upd_same (all.sm (Sm.new hp))) nd (rest (Sm.new hp))
    · cases e
  · cases e
theorem df_cat {a b : Expr} {f g : En → R D} {pos : Pos} (ha : DF X W a f) (hb : DF X W b g) : DF X W (.BinOp a .Add b pos) (eOp addS f g) :=
  pe_weak (pe_op or_catS ha hb) fun σ H Q ⟨S, env, P, q⟩ => by
  refine ⟨S, env, P, q.bind.imp fun d q x H1 fx e1 hx nx px => ?_⟩
  refine ⟨S, env, P.sm e1, (q.sm e1).bind.imp fun d2 q y H2 fy e2 hy ny py => ?_⟩
  obtain ⟨r, er, q⟩ := Out.of q
  refine ⟨d, d2, fx, fy, hx.sm e2, hy, nx, ny, fun c hc hd => ?_, fun c hc => mut_sm e2 (px c hc).2, fun c hc => (py c hc).2, r, er, fun v H3 fp e3 hv nv pv => ?_⟩
  · have z := (py c hd).1
    have w := (px c hc).2
    rw [z] at w; exact w
  · refine q v H3 fp ((e1.trans e2).trans e3) hv nv fun c hc => ⟨?_, (pv c hc).2⟩
    rcases (pv c hc).1 with z | z | z
    · exact (px c z).1
    · exact e1.back (py c z).1
    · exact (e1.trans e2).back z
end
end DL
set_option Elab.async false
set_option linter.all false
set_option maxRecDepth 100000
set_option maxHeartbeats 2000000
namespace DL
open PySem PySem.Spec PyProof.Rows L2
/-! ### x = y + e, y own and not used any more (or x itself) -/
def sCatO (i j : Nat) (f : En → R D) (env : En) : Fl := match env[j]? with
  | some (.ow d) => onE (f env) env fun d2 => match addS d d2 with
    | some r => if i < env.length then .nx ((env.set j .un).set i (.ow r)) else .no
    | none => .no
  | _ => .no
section
variable {X : Cx} {W : WX} {x y : Str} {py px pos bp : Pos} {b : Expr} {f : En → R D}
theorem ds_catO {i j : Nat} (hy : PE X (.Name y py) (tVar j)) (hb : DF X W b f) (hN : X.N.Nodup) (hi : X.N[i]? = some x := by rfl) (hx : Loc X.env.scope x := by first | exact Or.inl rfl | exact Or.inr rfl) (hs : swapsWith (.BinOp (.Name y py) .Add b bp) (some (.Name x px)) pos.line X.env = pure false := by rfl)
    (hf : X.fn x = true ∨ X.env.scope.names.lookup x = some .local := by first | exact .inl rfl | exact .inr rfl | assumption) : DS X W (.Assign [.Name x px] (.BinOp (.Name y py) .Add b bp) pos) (sCatO i j f) := ps_weak (ps_set hN hi hx (pe_op or_catS hy hb) hs hf) fun D σ H ⟨Z, env, E, g⟩ => by
  have E' := E
  obtain ⟨fps, E⟩ := E
  unfold sCatO at g
  split at g
  · rename_i d hd
    obtain ⟨v, h1, h2⟩ := E.val j d (look_ow hd)
    obtain ⟨n1, n2, n3⟩ := E.own j d hd
    refine ⟨v, h1, _, env, E.penv, (Go.out E' g).imp fun d2 g y H' fy e hy2 hn hp => ?_⟩
    split at g
    · rename_i r hr
      split at g
      · rename_i hl
        refine ⟨d, d2, fps j, fy, h2.sm e, hy2, n1, hn, fun a ha z => h2.gone ha (hp a z).1, fun a ha => mut_sm e (n2 a ha).2, fun a ha => (hp a ha).2, r, hr, fun v2 H2 fp e2 hv nv pv => ?_⟩
        refine g _ _ ⟨_, ((E.sm (e.trans e2)).forget j).put (by rw [List.length_set]; exact hl) hv nv (fun a ha => ⟨?_, (pv a ha).2⟩) fun k d' _ hlk a ha z => ?_⟩
        · rcases (pv a ha).1 with w | w | w
          · exact (n2 a w).1
          · exact E.keep.back (hp a w).1
          · exact E.keep.back (e.back w)
        · obtain ⟨q1, q2⟩ := look_forget hlk
          obtain ⟨u, _, hu⟩ := E.val k d' q2
          rcases (pv a ha).1 with w | w | w
          · exact n3 k d' q1 q2 a w z
          · exact hu.gone z (hp a w).1
          · exact (hu.sm e).gone z w
      · exact g.elim
    · exact g.elim
  · exact g.elim
/-- return x + y + e, x and y own -/
def sRetC (i j : Nat) (f : En → R D) (env : En) : Fl := match env[i]?, env[j]? with
  | some (.ow d1), some (.ow d2) => match addS d1 d2 with
    | some d => if i ≠ j then onE (f env) env fun d3 => match addS d d3 with
      | some r => .rt r
      | none => .no
      else .no
    | none => .no
  | _, _ => .no
theorem ds_retC {i j : Nat} {p1 p2 : Pos} (h1 : PE X (.Name x px) (tVar i)) (h2 : PE X (.Name y py) (tVar j)) (hb : DF X W b f) : DS X W (.Return (some (.BinOp (.BinOp (.Name x px) .Add (.Name y py) p1) .Add b p2)) pos) (sRetC i j f) := ps_weak (ps_ret (pe_op or_catS (pe_op or_catS h1 h2) hb)) fun D σ H ⟨Z, env, E, g⟩ => by
  have E' := E
  obtain ⟨fps, E⟩ := E
  unfold sRetC at g
  split at g
  · rename_i d1 d2 q1 q2
    split at g
    · rename_i d12 e12
      split at g
      · rename_i hij
        obtain ⟨v1, a1, a2⟩ := E.val i d1 (look_ow q1)
        obtain ⟨m1, m2, m3⟩ := E.own i d1 q1
        obtain ⟨v2, b1, b2⟩ := E.val j d2 (look_ow q2)
        obtain ⟨n1, n2, n3⟩ := E.own j d2 q2
        refine ⟨v1, a1, v2, b1, d1, d2, fps i, fps j, a2, b2, m1, n1, m3 j d2 (Ne.symm hij) (look_ow q2), fun a ha => (m2 a ha).2, fun a ha => (n2 a ha).2, d12, e12, fun v12 H1 fp12 s1 hv12 nv12 pv12 => ?_⟩
        refine ⟨_, env, E.penv.sm s1, ((Go.out E' g).sm s1).imp fun d3 g y H2 fy e hy2 hn hp => ?_⟩
        split at g
        · rename_i r hr
          refine ⟨d12, d3, fp12, fy, hv12.sm e, hy2, nv12, hn, fun a ha z => hv12.gone ha (hp a z).1, fun a ha => mut_sm e (pv12 a ha).2, fun a ha => (hp a ha).2, r, hr, fun v3 H3 fp3 e3 hv3 nv3 pv3 => ?_⟩
          refine g v3 H3 fp3 (((E.keep.trans s1).trans e).trans e3) hv3 nv3 fun a ha => ⟨?_, (pv3 a ha).2⟩
          rcases (pv3 a ha).1 with w | w | w
          · rcases (pv12 a w).1 with w | w | w
            · exact (m2 a w).1
            · exact (n2 a w).1
            · exact E.keep.back w
          · exact E.keep.back (s1.back (hp a w).1)
          · exact E.keep.back (s1.back (e.back w))
        · exact g.elim
      · exact g.elim
    · exact g.elim
  · exact g.elim
end
end DL
set_option Elab.async false
set_option linter.all false
set_option maxRecDepth 100000
set_option maxHeartbeats 2000000
namespace DL
open PySem PySem.Spec PyProof.Rows L2
/-! ### what is held fast for good -/
mutual
def frzD : D → Option D
  | .non => some .non
  | .bl b => some (.bl b)
  | .int i => some (.int i)
  | .str x => some (.str x)
  | .ty n => some (.ty n)
  | .tup ds => (frzA ds).map .tup
  | .kt ds => (frzA ds).map .kt
  | .lst ds => (frzA ds).map .fl
  | .fz ds => (frzA ds).map .fz
  | .dk _ _ => none
  | .dt _ _ => none
  | .ins c _ fs ds => (frzA ds).map (.fi c fs)
  | .fi c fs ds => (frzA ds).map (.fi c fs)
  | .io _ _ => none
  | .fl ds => (frzA ds).map .fl
def frzA : List D → Option (List D)
  | [] => some []
  | d :: ds => (frzD d).bind fun e => (frzA ds).map (e :: ·)
end
/-- the things of fp are locked, all else is as it was -/
structure Lk (fp : List Addr) (H H' : Hp) : Prop where
  inn : ∀ a ∈ fp, ∀ u, H a = some u → ∃ o, H' a = some (.frz o u)
  out : ∀ a, a ∉ fp → H' a = H a
section
variable {K : PySem.W.Frag} {mg : Str → Option Value} {H H' : Hp} {fq : List Addr}
theorem Lk.stay (L : Lk fq H H') (m : ∀ a ∈ fq, Mut (H a)) {a : Addr} {u : HO} (h : H a = some u) (n : ¬ Mut (some u)) : H' a = some u := by
  rw [L.out a fun z => n (h ▸ m a z)]; exact h
mutual
theorem Val.frz (L : Lk fq H H') (m : ∀ a ∈ fq, Mut (H a)) : ∀ (d : D) {v : V} {fp : List Addr} {d' : D}, Val K mg H d v fp → frzD d = some d' → (∀ a ∈ fp, a ∈ fq) → Val K mg H' d' v []
  | .non, v, fp, d', h, e, w => by cases e; simp only [Val] at h ⊢; simp [h.1]
  | .bl b, v, fp, d', h, e, w => by cases e; simp only [Val] at h ⊢; simp [h.1]
  | .int i, v, fp, d', h, e, w => by cases e; simp only [Val] at h ⊢; simp [h.1]
  | .str x, v, fp, d', h, e, w => by cases e; simp only [Val] at h ⊢; simp [h.1]
  | .ty n, v, fp, d', h, e, w => by cases e; simp only [Val] at h ⊢; simp [h.1]
  | .tup ds, v, fp, d', h, e, w => by
    simp only [frzD, Option.map_eq_some_iff] at e
    obtain ⟨ds', e1, e2⟩ := e
    subst e2
    simp only [Val] at h ⊢
    obtain ⟨a, vs, ev, t, q⟩ := h
    exact ⟨a, vs, ev, L.stay m t id, VAll.frz L m ds q e1 w⟩
  | .kt ds, v, fp, d', h, e, w => by
    simp only [frzD, Option.map_eq_some_iff] at e
    obtain ⟨ds', e1, e2⟩ := e
    subst e2
    simp only [Val] at h ⊢
    obtain ⟨a, vs, ev, t, q⟩ := h
    exact ⟨a, vs, ev, t, VAll.frz L m ds q e1 w⟩
  | .lst ds, v, fp, d', h, e, w => by
    simp only [frzD, Option.map_eq_some_iff] at e
    obtain ⟨ds', e1, e2⟩ := e
    subst e2
    simp only [Val] at h ⊢
    obtain ⟨a, vs, f, ev, ef, t, q⟩ := h
    subst ef
    obtain ⟨o, ho⟩ := L.inn a (w a List.mem_cons_self) _ t
    exact ⟨a, vs, o, ev, ho, VAll.frz L m ds q e1 fun b hb => w b (List.mem_cons_of_mem _ hb)⟩
  | .fz ds, v, fp, d', h, e, w => by
    simp only [frzD, Option.map_eq_some_iff] at e
    obtain ⟨ds', e1, e2⟩ := e
    subst e2
    simp only [Val] at h ⊢
    obtain ⟨a, vs, ev, t, q⟩ := h
    exact ⟨a, vs, ev, t.imp (fun ⟨o, z⟩ => ⟨o, L.stay m z id⟩) id, VAll.frz L m ds q e1 w⟩
  | .dk ks ds, v, fp, d', h, e, w => by simp [frzD] at e
  | .dt ks ds, v, fp, d', h, e, w => by simp [frzD] at e
  | .ins c id fs ds, v, fp, d', h, e, w => by
    simp only [frzD, Option.map_eq_some_iff] at e
    obtain ⟨ds', e1, e2⟩ := e
    subst e2
    simp only [Val] at h ⊢
    obtain ⟨a, C, dx, kvs, f, ev, ef, hm, t, hk, q, _⟩ := h
    subst ef
    obtain ⟨o, ho⟩ := L.inn a (w a List.mem_cons_self) _ t
    exact ⟨a, C, dx, kvs, o, ev, hm, ho, hk, VAll.frz L m ds q e1 fun b hb => w b (List.mem_cons_of_mem _ hb)⟩
  | .fi c fs ds, v, fp, d', h, e, w => by
    simp only [frzD, Option.map_eq_some_iff] at e
    obtain ⟨ds', e1, e2⟩ := e
    subst e2
    simp only [Val] at h ⊢
    obtain ⟨a, C, dx, kvs, o, ev, hm, t, hk, q⟩ := h
    exact ⟨a, C, dx, kvs, o, ev, hm, L.stay m t id, hk, VAll.frz L m ds q e1 w⟩
  | .io b s, v, fp, d', h, e, w => by simp [frzD] at e
  | .fl ds, v, fp, d', h, e, w => by
    simp only [frzD, Option.map_eq_some_iff] at e
    obtain ⟨ds', e1, e2⟩ := e
    subst e2
    simp only [Val] at h ⊢
    obtain ⟨a, vs, o, ev, t, q⟩ := h
    exact ⟨a, vs, o, ev, L.stay m t id, VAll.frz L m ds q e1 w⟩
theorem VAll.frz (L : Lk fq H H') (m : ∀ a ∈ fq, Mut (H a)) : ∀ (ds : List D) {vs : List V} {fp : List Addr} {ds' : List D}, VAll K mg H ds vs fp → frzA ds = some ds' → (∀ a ∈ fp, a ∈ fq) → VAll K mg H' ds' vs []
  | [], vs, fp, ds', h, e, w => by cases e; simp only [VAll] at h ⊢; simp [h.1]
  | d :: ds, vs, fp, ds', h, e, w => by
    simp only [frzA, Option.bind_eq_some_iff, Option.map_eq_some_iff] at e
    obtain ⟨d1, e1, ds1, e2, e3⟩ := e
    subst e3
    simp only [VAll] at h ⊢
    obtain ⟨v, vr, f, g, ev, ef, h1, h2⟩ := h
    subst ef
    exact ⟨v, vr, [], [], ev, rfl, Val.frz L m d h1 e1 fun a ha => w a (List.mem_append_left _ ha), VAll.frz L m ds h2 e2 fun a ha => w a (List.mem_append_right _ ha)⟩
end
end
section
variable {X : Cx} {pins : List (Addr × Obj)} {σ : L2.St} {s : Shared}
theorem lock_all : ∀ (fp : List Addr) {H : Hp}, fp.Nodup → (∀ a ∈ fp, Mut (H a)) → L2.Inv X pins σ H s → ∃ H', L2.Inv X pins σ H' s ∧ Lk fp H H'
  | [], H, _, _, I => ⟨H, I, ⟨fun _ h => (nomatch h), fun _ _ => rfl⟩⟩
  | a :: fp, H, n, m, I => by
    obtain ⟨n1, n2⟩ := List.nodup_cons.mp n
    have ma := m a List.mem_cons_self
    cases ha : H a with
    | none => rw [ha] at ma; exact ma.elim
    | some u =>
      rw [ha] at ma
      obtain ⟨od, I1⟩ := I.lock ha ma
      have ne : ∀ b ∈ fp, b ≠ a := fun b hb z => n1 (z ▸ hb)
      obtain ⟨H', I2, L⟩ := lock_all fp n2 (fun b hb => by rw [upd_ne (ne b hb)]; exact m b (List.mem_cons_of_mem _ hb)) I1
      refine ⟨H', I2, ⟨fun b hb w hw => ?_, fun b hb => ?_⟩⟩
      · rcases List.mem_cons.mp hb with z | z
        · subst z
          rw [ha] at hw; cases hw
          exact ⟨od, by rw [L.out b n1, upd_same]⟩
        · exact L.inn b z w (by rw [upd_ne (ne b z)]; exact hw)
      · rw [L.out b fun z => hb (List.mem_cons_of_mem _ z), upd_ne fun z => hb (by rw [z]; exact List.mem_cons_self)]
end
section
variable {X : Cx} {W : WX} {e : Expr} {f : En → R D}
def eFrz (f : En → R D) (env : En) : R D := f env >>= fun d => R.of (frzD d)
/-- a new value is held fast: from now on it is one that can't be changed -/
theorem df_frz (h : DF X W e f) : DF X W e (eFrz f) := by
  refine ⟨fun pins s σ H Q I ⟨S, env, P, q⟩ => ?_⟩
  have q0 : tF X.K X.mg W f σ H (fun v H' => ∃ d fp d', Sm H H' ∧ Val X.K X.mg H' d v fp ∧ fp.Nodup ∧ (∀ a ∈ fp, H a = none ∧ Mut (H' a)) ∧ frzD d = some d' ∧ AfterF X.K X.mg H d' Q) :=
    ⟨S, env, P, q.bind.imp fun d q v H' fp e hv hn hp => by
      obtain ⟨d', e1, q⟩ := Out.of q
      exact ⟨d, fp, d', e, hv, hn, hp, e1, q⟩⟩
  refine thn (h.run pins s σ H _ I q0) fun u s1 ⟨v, H1, I1, rv, d, fp, d', e, hv, hn, hp, e1, q⟩ => ?_
  obtain ⟨H2, I2, L⟩ := lock_all fp hn (fun a ha => (hp a ha).2) I1
  refine ⟨v, H2, I2, rv, q v H2 [] (fun b o hb => ?_) (Val.frz L (fun a ha => (hp a ha).2) d hv e1 fun a ha => ha) List.nodup_nil (by simp)⟩
  rw [L.out b fun z => by rw [(hp b z).1] at hb; cases hb]
  exact e b o hb
end
end DL
set_option Elab.async false
set_option linter.all false
set_option maxRecDepth 100000
set_option maxHeartbeats 2000000
namespace DL
open PySem PySem.Spec PyProof.Rows L2
/-! ### for i, x in enumerate(xs), xs a list or a tuple -/
/-- enumerate(v) over any v that can be walked: two new things -/
theorem made_enum {v : Value} {o : Obj} {G : Heap → Prop} (B : Begins v o G) : Meets (Builtin.«enumerate.__new__» ⟨[.type "enumerate", v], []⟩) (fun _ R s => G s.heap ∧ R (.ok (.ret (.ref (s.heap.push o).objs.size))) { s with heap := (s.heap.push o).push { cls := .type "enumerate", data := .fields #[.none, .bool false, .ref s.heap.objs.size, rawInt 0, .none, .none] } }) := .of_wp fun prog w A R s hF => by
  obtain ⟨hp, gs, dr, tk, os⟩ := s; obtain ⟨hf, hR⟩ := hF
  have hs0 := sub_enumerate
  have it0 : ∀ {A' : Around} {E' : Value → Shared → Prop} {Q' : Value → Shared → Prop}, Q' (.ref hp.objs.size) ⟨hp.push o, gs, dr, tk, os⟩ → wpAny (model prog w) A' (pyIter v) Q' E' ⟨hp, gs, dr, tk, os⟩ := fun z => B.iter prog w _ _ ⟨hp, gs, dr, tk, os⟩ _ hf z
  wp_walk using it0
  refine wpAny_stack_any fun _ => wpAny_pure ?_
  split
  · rename_i cc _ _ _ _ _; cases (cc == Value.type "enumerate")
    · wp_walk using it0; exact ⟨_, rfl, hR⟩
    · wp_walk using it0; exact ⟨_, rfl, hR⟩
  · wp_walk using it0; exact ⟨_, rfl, hR⟩
theorem call_enum {prog : Program} {w : World} {A : Around} {E : Value → Shared → Prop} {s : Shared} {v : Value} {o : Obj} {G : Heap → Prop} {Q : Value → Shared → Prop} (B : Begins v o G) (hf : G s.heap)
    (k : ∀ h', IsEnum h' (s.heap.objs.size + 1) s.heap.objs.size 0 .none → h'.get? s.heap.objs.size = some o → (∀ b u, s.heap.get? b = some u → h'.get? b = some u) → Q (.ref (s.heap.objs.size + 1)) { s with heap := h' }) :
    wpAny (model prog w) A (call (.type "enumerate") [v]) Q E s := by
  refine callType_new F.called_enumerate (by decide) (F.typeCall_enumerate_1 _) (F.newCall_enumerate_1 _) (fun ob => F.args_object_init_2 ob _) F.entry_enumerate_new (made_enum B) ⟨hf, ?_⟩
  have sz : (s.heap.push o).objs.size = s.heap.objs.size + 1 := Heap.size_push ..
  show _ ∧ _; rw [sz]
  have ie : IsEnum ((s.heap.push o).push { cls := .type "enumerate", data := .fields #[.none, .bool false, .ref s.heap.objs.size, rawInt 0, .none, .none] }) (s.heap.objs.size + 1) s.heap.objs.size 0 .none := by
    have g := Heap.get?_push_size (s.heap.push o) (o := { cls := .type "enumerate", data := .fields #[.none, .bool false, .ref s.heap.objs.size, rawInt 0, .none, .none] }) rfl
    rwa [sz] at g
  exact ⟨⟨_, ie, rfl⟩, k _ ie (Heap.get?_push_of_some _ (Heap.get?_push_size _ B.free)) fun b u z => Heap.get?_push_of_some _ (Heap.get?_push_of_some _ z)⟩
/-- the tuple at a, each item in a new pair -/
def IteT (K : PySem.W.Frag) (a : Addr) : It :=
  ⟨fun i H => ∃ (ts : List V) (y : V), SqT K H a ts ∧ ts[i]? = some y, fun i H v H' => ∃ T y, v = .ref T ∧ H T = none ∧ H' = upd H T (.tup [.int (i : Nat), y]) ∧ ∀ ts, SqT K H a ts → ts[i]? = some y, fun i H => ∃ ts : List V, SqT K H a ts ∧ ts.length ≤ i⟩
theorem tup_notIter {h : Heap} {a it i : Nat} {items : Array Value} (h1 : h.IsTupleIter it a i) (h2 : h.IsTuple a items) : a ≠ it := fun z => by
  obtain ⟨o, e1, c1, _⟩ := h1
  obtain ⟨p, e2, c2, _⟩ := h2
  subst z
  rw [e1] at e2; cases e2
  rw [c1] at c2; exact absurd c2 (by decide)
theorem tup_notEnum {h : Heap} {a e it : Nat} {c : Int} {old : Value} {items : Array Value} (h1 : IsEnum h e it c old) (h2 : h.IsTuple a items) : e ≠ a := fun z => by
  obtain ⟨p, e2, c2, _⟩ := h2
  subst z
  have h1' : h.get? e = some _ := h1
  rw [h1'] at e2; cases e2
  have c3 : Value.type "enumerate" = Value.type "tuple" := c2
  exact absurd c3 (by decide)
theorem turn_enumT {P : Program} {w : World} {K : PySem.W.Frag} {elts : List Expr} {kk : Nat} {tpos : Pos} (a e it : Addr) :
    Turn P w K (.Tuple elts kk tpos) (IteT K a) [e, it] e (fun i h => (∃ old, IsEnum h e it ((i : Nat) : Int) old) ∧ h.IsTupleIter it a i ∧ e ≠ it) where
  mem := by simp
  obj := fun i h st b hb => by
    obtain ⟨⟨old, ie⟩, ⟨o, ho, _, hd⟩, _⟩ := st
    have two : b = e ∨ b = it := by simpa using hb
    rcases two with z | z
    · rw [z]; exact ⟨_, ie, fun v q => nomatch q⟩
    · rw [z]; exact ⟨o, ho, fun v q => by rw [hd] at q; cases q⟩
  keep := fun i h h' st k => let ⟨⟨old, ie⟩, ti, ne⟩ := st; ⟨⟨old, k e (by simp) _ ie⟩, ti.at fun o q => k it (by simp) o q, ne⟩
  item := by
    intro X hP hw hK hc i pins s σ H E I hf st hg
    subst hP hw hK
    obtain ⟨⟨old, ie⟩, ti, ne⟩ := st
    obtain ⟨ts, y, hq, hy⟩ := hg
    obtain ⟨its, rv, p, hz⟩ := I.tuple hq
    have p' : s.heap.IsTuple a its.toArray := p
    obtain ⟨u, hu, ru⟩ := rv.get hy
    have el : e < s.heap.objs.size := Heap.lt_size ie
    have il : it < s.heap.objs.size := by obtain ⟨_, q, _⟩ := ti; exact Heap.lt_size q
    have hlen : i < its.toArray.size := by
      have := (List.getElem?_eq_some_iff.mp hu).1
      simpa using this
    have nai := tup_notIter ti p'
    refine wpAny_pyNext_enum_itemC (Draws.tuple (prog := X.prog) (w := X.w) (A := X.A.in1) (I.ok.hd hc) it a nai its.toArray) ie ⟨ti, p'⟩ hlen ne (by simp [ne, tup_notEnum ie p']) fun x h1 tk hx ho hst hT hsz hk => ?_
    obtain ⟨ti1, _⟩ := hst
    have hx' : its[i]? = some x := by simpa using hx
    rw [hu] at hx'; cases hx'
    refine ⟨_, rfl, wpAny_letOwnedTupleGo_enum (s := { s with heap := h1, toks := tk + 1 }) ho fun h2 ie2 sb => ?_⟩
    have hT2 : h2.get? s.heap.objs.size = some { cls := .type "tuple", data := .seq #[.int i tk, u] } := (sb.2 _ (Nat.ne_of_gt el)).trans hT
    have nw : ObjOk X.prog X.w (upd H s.heap.objs.size (.tup [.int (i : Nat), y])) h2 s.heap.objs.size (.tup [.int (i : Nat), y]) :=
      ⟨(by decide : 2 ≤ sizeLine), [.int i tk, u], .cons ⟨_, rfl⟩ (.cons ru .nil), ⟨_, hT2, rfl, _, rfl⟩⟩
    have I1 : Inv X pins σ (upd H s.heap.objs.size (.tup [.int (i : Nat), y])) { s with heap := h2, toks := tk + 1 } :=
      I.turnedNew (ch := [e, it]) (fun b ob hb q => (sb.2 b fun z => hb (by simp [z])).trans (hk b ob (fun z => hb (by simp [z])) (fun z => hb (by simp [z])) q)) hf (Nat.le_refl _) nw
    refine ⟨.ref s.heap.objs.size, _, I1, rfl, ⟨_, y, rfl, I.hok.fresh (Nat.le_refl _), rfl, fun ys hy' => by rw [I.tuple_inj hy' hq]; exact hy⟩, ⟨⟨u, ?_⟩, ti1.at fun o q => (sb.2 it (Ne.symm ne)).trans q, ne⟩, fun b hb => ?_⟩
    · have e1 : ((i + 1 : Nat) : Int) = (i : Int) + 1 := by omega
      rw [e1]; exact ie2
    · have bl : b < s.heap.objs.size := by
        have two : b = e ∨ b = it := by simpa using hb
        rcases two with z | z
        · rw [z]; exact el
        · rw [z]; exact il
      rw [upd_ne (Nat.ne_of_lt bl)]; exact (hf b hb).1
  done := by
    intro X hP hw hK hc i pins s σ H E I hf st hg
    subst hP hw hK
    obtain ⟨⟨old, ie⟩, ti, ne⟩ := st
    obtain ⟨ts, hq, hl⟩ := hg
    obtain ⟨its, rv, p, hz⟩ := I.tuple hq
    have p' : s.heap.IsTuple a its.toArray := p
    obtain ⟨f0, f1, f2, f3, f4, f5⟩ := hf it (by simp)
    have hlen := rv.length
    have D := Draws.tuple (prog := X.prog) (w := X.w) (A := X.A.in1) (I.ok.hd hc) it a (tup_notIter ti p') its.toArray
    have hTy : s.TypeIs (.ref e) "enumerate" := ⟨_, ie, rfl⟩
    unfold pyNext
    refine wpAny_bind (wpAny_attempt (wpAny_callSpecial?_slot (name := Str.ofString "__next__") hTy F.slot_enumerate_next (wpAny_call_entry F.slot_enumerate_next hTy F.entry_enumerate_next ?_ (F.args_enumerate_next_1 _))))
    show wpAny _ _ (field (.ref e) 2 >>= _) _ _ _
    refine wpAny_bind (wpAny_field ie rfl (x := .ref it) rfl (wpAny_bind (wpAny_nextOf_tuple_end (I.ok.hd hc) ti p' (by simp; omega) fun h1 x he1 hx1 => ?_)))
    obtain ⟨o, ho, hcl⟩ := hx1
    exact wpAny_bind (wpAny_isInstance (T := "StopIteration") (b := true) ⟨o, ho, hcl⟩ isSubtype_stop (wpAny_pure ⟨rfl, I.turned (t' := s.toks) (fun b o hb q => he1 b o hb q) f0 f1 f3 f4 f5⟩))
  self := fun A i s Q E st h => let ⟨⟨_, ie⟩, _⟩ := st; wpAny_pyIter_enum ie h
def iEnumA (K : PySem.W.Frag) (ta : TA) : TI := fun σ H R => ta σ H fun vs H1 => (∃ a xs, vs = [.ref a] ∧ SqL K H1 a xs ∧ R (Ite K a) H1) ∨ ∃ a xs, vs = [.ref a] ∧ SqT K H1 a xs ∧ R (IteT K a) H1
theorem pi_enumA {X : Cx} {e : Expr} {ta : TA} {p pos tpos : Pos} {elts : List Expr} {kk : Nat} (hg : Gl X "enumerate") (hm : X.mg "enumerate" = none) (ha : PA X [e] ta) (hs : starEach [e] X.env = [(false, eval e X.env)] := by rfl) :
    PI X (.Tuple elts kk tpos) (.Call (.Name "enumerate" p) [e] [] pos) (iEnumA X.K ta) := by
  refine ⟨fun pins s σ H R I q0 => ?_⟩
  refine Call_ (ld_blt I hg hm boot_enumerate (PyProof.Rows.callWith_type1 (thn (ha.run pos pins s σ H _ I q0) fun us s1 ⟨vs, H1, I1, r1, q1⟩ => ?_) hs rfl))
  have off : ∀ b ∈ [s1.heap.objs.size + 1, s1.heap.objs.size], s1.heap.objs.size ≤ b := fun b hb => by
    have two : b = s1.heap.objs.size + 1 ∨ b = s1.heap.objs.size := by simpa using hb
    omega
  rcases q1 with ⟨a, xs, ex, hq, q⟩ | ⟨a, xs, ex, hq, q⟩
  · subst ex
    cases r1 with
    | cons r rr =>
      cases rr; cases r
      obtain ⟨its, rv, pl, hz⟩ := I1.list hq
      refine call_enum (begins_list a its.toArray) pl.isList fun h1 ie g k => wpAny_pyIter_enum ie ?_
      exact ⟨s1.heap.objs.size + 1, [s1.heap.objs.size + 1, s1.heap.objs.size], _, _, H1, rfl, I1.kept (t' := s1.toks) k, turn_enum a (s1.heap.objs.size + 1) s1.heap.objs.size, ⟨⟨.none, ie⟩, ⟨_, g, rfl, rfl⟩, Nat.succ_ne_self _⟩, fun b hb => I1.fpOk (off b hb) (I1.hok.fresh (off b hb)), q⟩
  · subst ex
    cases r1 with
    | cons r rr =>
      cases rr; cases r
      obtain ⟨its, rv, pl, hz⟩ := I1.tuple hq
      refine call_enum (begins_tuple a its.toArray) pl fun h1 ie g k => wpAny_pyIter_enum ie ?_
      exact ⟨s1.heap.objs.size + 1, [s1.heap.objs.size + 1, s1.heap.objs.size], _, _, H1, rfl, I1.kept (t' := s1.toks) k, turn_enumT a (s1.heap.objs.size + 1) s1.heap.objs.size, ⟨⟨.none, ie⟩, ⟨_, g, rfl, rfl⟩, Nat.succ_ne_self _⟩, fun b hb => I1.fpOk (off b hb) (I1.hok.fresh (off b hb)), q⟩
/-- the items with their numbers -/
def enumL {α : Type} (xs : List α) : List (Int × α) := xs.zipIdx.map fun p => ((p.2 : Int), p.1)
def enumD (ds : List D) : List D := (enumL ds).map fun p => .tup [.int p.1, p.2]
def eEnum (f : En → R D) (env : En) : R (List D) := f env >>= fun d => R.of ((items d).map enumD)
theorem enumL_get {α : Type} (xs : List α) (i : Nat) : (enumL xs)[i]? = (xs[i]?).map fun x => ((i : Int), x) := by
  unfold enumL
  rw [List.getElem?_map, List.getElem?_zipIdx]
  cases xs[i]? <;> simp
theorem enumL_len {α : Type} (xs : List α) : (enumL xs).length = xs.length := by simp [enumL]
section
variable {X : Cx} {W : WX} {p pos tpos : Pos} {elts : List Expr} {kk : Nat} {e : Expr} {f : En → R D}
/-- all that a walk leans on is there -/
def Leans (H1 : Hp) (fp : List Addr) (H : Hp) : Prop := ∀ b o, H1 b = some o → (b ∈ fp ∨ Stat o) → H b = some o
theorem seq_leans {K : PySem.W.Frag} {mg : Str → Option Value} {H1 : Hp} {d : D} {v : V} {fp : List Addr} {ds : List D} (h : Val K mg H1 d v fp) (e : items d = some ds) :
    ∃ a vs f, v = .ref a ∧ ((∀ H, Leans H1 fp H → SqL K H a vs) ∨ ∀ H, Leans H1 fp H → SqT K H a vs) ∧ VAll K mg H1 ds vs f ∧ ∀ b ∈ f, b ∈ fp := by
  cases d <;> simp only [items, Option.some.injEq, reduceCtorEq] at e <;> subst e <;> simp only [Val] at h
  · obtain ⟨a, vs, e, t, q⟩ := h
    exact ⟨a, vs, fp, e, .inr fun H l => .inl (.inl (l _ _ t (.inr trivial))), q, fun _ z => z⟩
  · obtain ⟨a, vs, f, e, ef, t, q⟩ := h
    exact ⟨a, vs, f, e, .inl fun H l => .inl (.inl (l _ _ t (.inl (by rw [ef]; exact List.mem_cons_self)))), q, fun b z => by rw [ef]; exact List.mem_cons_of_mem _ z⟩
  · obtain ⟨a, vs, e, t, q⟩ := h
    refine ⟨a, vs, fp, e, .inl fun H l => ?_, q, fun _ z => z⟩
    rcases t with ⟨o, t⟩ | t
    · exact FzL.sq (.inl ⟨o, l _ _ t (.inr trivial)⟩)
    · exact FzL.sq (.inr t)
  · obtain ⟨a, vs, e, t, q⟩ := h
    exact ⟨a, vs, fp, e, .inr fun H l => t.sq, q, fun _ z => z⟩
  · obtain ⟨a, vs, o, e, t, q⟩ := h
    exact ⟨a, vs, fp, e, .inl fun H l => .inl (.inr ⟨o, l _ _ t (.inr trivial)⟩), q, fun _ z => z⟩
theorem di_enum (hm : X.mg "enumerate" = none) (ha : DE X W e f) (hg : Gl X "enumerate" := by rfl) (hs : starEach [e] X.env = [(false, eval e X.env)] := by rfl) (he : starEach [e] X.env = (false, eval e X.env) :: starEach [] X.env := by rfl) : DI X W (.Tuple elts kk tpos) (.Call (.Name "enumerate" p) [e] [] pos) (eEnum f) :=
  pi_weak (pi_enumA hg hm (da_cons ha da_nil he) hs) fun σ H R ⟨S, env, P, q⟩ => by
    refine ⟨S, env, P, ?_⟩
    show Out X.mg W σ H (f env >>= fun d => .ok [d]) _
    cases hf : f env with
    | ex c => unfold eEnum at q; rw [hf] at q; exact q
    | no => unfold eEnum at q; rw [hf] at q; exact q
    | ok d =>
      unfold eEnum at q
      rw [hf] at q
      obtain ⟨ds', eds, q⟩ := Out.of q
      simp only [Option.map_eq_some_iff] at eds
      obtain ⟨ds, eds, rfl⟩ := eds
      intro vs H1 fp e1 hvs hp
      obtain ⟨v, exs, hv⟩ := hvs.inv1
      subst exs
      obtain ⟨a, xs, g, ev, hk, hall, hsub⟩ := seq_leans hv eds
      subst ev
      have self : Leans H1 fp H1 := fun b o hb _ => hb
      -- an item
      have one : ∀ {Z H2 : Hp} {i : Nat} {x : D}, (∀ b o, H1 b = some o → (b ∈ fp ∨ Stat o) → Z b = some o) → Sm Z H2 → (enumD ds)[i]? = some x → ∃ y d0 g0, xs[i]? = some y ∧ x = .tup [.int (i : Nat), d0] ∧ Val X.K X.mg H2 d0 y g0 ∧ ∀ b ∈ g0, b ∈ fp ∧ Z b ≠ none := fun {Z H2 i x} hz e hx => by
        unfold enumD at hx
        rw [List.getElem?_map, enumL_get, Option.map_map, Option.map_eq_some_iff] at hx
        obtain ⟨d0, hd0, rfl⟩ := hx
        obtain ⟨y, g0, q1, q2, q3⟩ := hall.get hd0
        refine ⟨y, d0, g0, q1, rfl, Val.kp _ q2 (kp_of hz e fun b hb => hsub b (q3 b hb)), fun b hb => ⟨hsub b (q3 b hb), ?_⟩⟩
        obtain ⟨o, ho, _⟩ := Val.dom _ q2 b hb
        rw [hz b o ho (.inl (hsub b (q3 b hb)))]
        exact fun z => nomatch z
      have len : (enumD ds).length = xs.length := by unfold enumD; rw [List.length_map, enumL_len, hall.length]
      have valT : ∀ {H2 : Hp} {T : Addr} {i : Nat} {d0 : D} {y : V} {g0 : List Addr}, H2 T = none → Val X.K X.mg H2 d0 y g0 → Val X.K X.mg (upd H2 T (.tup [.int (i : Nat), y])) (.tup [.int (i : Nat), d0]) (.ref T) g0 := fun {H2 T i d0 y g0} hT h0 => by
        simp only [Val, VAll]
        exact ⟨T, _, rfl, upd_same, .int i, [y], [], g0, rfl, rfl, by simp, y, [], g0, [], rfl, by simp, h0.sm (Sm.new hT), by simp⟩
      rcases hk with hk | hk
      · refine .inl ⟨a, xs, rfl, hk _ self, q _ H1 fp e1 hp hv.there fun Z hz H2 e i => ⟨fun x hx => ?_, fun hl => ⟨xs, hk _ fun b o hb z => e _ _ (hz b o hb z), by rw [← len]; exact hl⟩⟩⟩
        have hq := hk H2 fun b o hb z => e _ _ (hz b o hb z)
        obtain ⟨y, d0, g0, q1, rfl, q2, q3⟩ := one hz e hx
        refine ⟨⟨xs, y, hq, q1⟩, fun v H' hy => ?_⟩
        obtain ⟨T, y', rfl, hT, rfl, hall'⟩ := hy
        have := hall' xs hq
        rw [q1] at this; cases this
        exact ⟨Sm.new hT, g0, valT hT q2, q3⟩
      · refine .inr ⟨a, xs, rfl, hk _ self, q _ H1 fp e1 hp hv.there fun Z hz H2 e i => ⟨fun x hx => ?_, fun hl => ⟨xs, hk _ fun b o hb z => e _ _ (hz b o hb z), by rw [← len]; exact hl⟩⟩⟩
        have hq := hk H2 fun b o hb z => e _ _ (hz b o hb z)
        obtain ⟨y, d0, g0, q1, rfl, q2, q3⟩ := one hz e hx
        refine ⟨⟨xs, y, hq, q1⟩, fun v H' hy => ?_⟩
        obtain ⟨T, y', rfl, hT, rfl, hall'⟩ := hy
        have := hall' xs hq
        rw [q1] at this; cases this
        exact ⟨Sm.new hT, g0, valT hT q2, q3⟩
end
end DL
set_option Elab.async false
set_option linter.all false
set_option maxRecDepth 100000
set_option maxHeartbeats 2000000
namespace DL
open PySem PySem.Spec PyProof.Rows L2
/-! ### methods that change their instance -/
/-- the slots as such a method begins: the instance, its dict at i -/
def startIO (c : Str) (m i : Nat) (fs : List Str) (xs ds : List D) : En := .ow (.ins c (some i) fs xs) :: (ds.map .sh ++ List.replicate (m - (ds.length + 1)) .un)
def IOend (c : Str) (i : Nat) (b : Option Bool) (fs : List Str) (xs : List D) : Fl → Prop
  | .rt d => d = .io b (.ins c (some i) fs xs)
  | .nx e => b = none ∧ e[0]? = some (.ow (.ins c (some i) fs xs))
  | _ => False
def IOok (c : Str) (n m : Nat) (G : En → Fl) (dds : List D) (r : Option Bool × List Str × List D) : Prop := match dds with
  | .ins c' none fs xs :: ds => c' = c ∧ ds.length = n ∧ ∀ i, IOend c i r.1 r.2.1 r.2.2 (G (startIO c m i fs xs ds))
  | _ => False
open Classical in
noncomputable def mkIO (c : Str) (n m : Nat) (G : En → Fl) : List D → Option (Option Bool × List Str × List D) := fun ds => if h : ∃ r, IOok c n m G ds r then some h.choose else none
theorem io_one {c : Str} {n m : Nat} {G : En → Fl} {ds : List D} {r r' : Option Bool × List Str × List D} (h : IOok c n m G ds r) (h' : IOok c n m G ds r') : r = r' := by
  unfold IOok at h h'
  split at h
  · have a := h.2.2 0
    have b := h'.2.2 0
    rename_i c' fs xs ds
    cases q : G (startIO c m 0 fs xs ds) with
    | rt d =>
      rw [q] at a b
      simp only [IOend] at a b
      rw [a] at b
      simp only [D.io.injEq, D.ins.injEq] at b
      obtain ⟨b1, _, _, b2, b3⟩ := b
      exact Prod.ext b1 (Prod.ext b2 b3)
    | nx e =>
      rw [q] at a b
      simp only [IOend] at a b
      rw [a.2] at b
      simp only [Option.some.injEq, Sl.ow.injEq, D.ins.injEq] at b
      obtain ⟨b1, _, _, b2, b3⟩ := b
      exact Prod.ext (a.1.trans b1.symm) (Prod.ext b2 b3)
    | _ => rw [q] at a; exact a.elim
  · exact h.elim
theorem mkIO_eq {c : Str} {n m : Nat} {G : En → Fl} {ds : List D} {r : Option Bool × List Str × List D} (h : IOok c n m G ds r) : mkIO c n m G ds = some r := by
  have w : ∃ r, IOok c n m G ds r := ⟨r, h⟩
  unfold mkIO
  rw [dif_pos w]
  exact congrArg some (io_one w.choose_spec h)
theorem mkIO_some {c : Str} {n m : Nat} {G : En → Fl} {ds : List D} {r : Option Bool × List Str × List D} (h : mkIO c n m G ds = some r) : IOok c n m G ds r := by
  unfold mkIO at h
  split at h
  · rename_i w; cases h; exact w.choose_spec
  · cases h
/-- what is not of the instance stays -/
def SmX (fp : List Addr) (H H' : Hp) : Prop := ∀ b o, b ∉ fp → H b = some o → H' b = some o
theorem VAll.fpsS {K : PySem.W.Frag} {mg : Str → Option Value} {H : Hp} : ∀ {ds : List D} {vs : List V} {fp : List Addr}, VAll K mg H ds vs fp → ∃ fps : Nat → List Addr, ∀ i d, ds[i]? = some d → ∃ v, vs[i]? = some v ∧ Val K mg H d v (fps i) ∧ ∀ a ∈ fps i, a ∈ fp
  | [], vs, fp, h => ⟨fun _ => [], fun i d z => by simp at z⟩
  | d :: ds, vs, fp, h => by
    simp only [VAll] at h
    obtain ⟨v, vr, f, g, rfl, rfl, h1, h2⟩ := h
    obtain ⟨fps, q⟩ := VAll.fpsS h2
    exact ⟨fun i => match i with | 0 => f | i + 1 => fps i, fun i e he => match i, he with
      | 0, he => by cases he; exact ⟨v, rfl, h1, fun a ha => List.mem_append_left _ ha⟩
      | i + 1, he => by
        obtain ⟨u, q1, q2, q3⟩ := q i e (by simpa using he)
        exact ⟨u, by simpa using q1, q2, fun a ha => List.mem_append_right _ (q3 a ha)⟩⟩
/-- the promise of such a method -/
def spIO (K : PySem.W.Frag) (mg : Str → Option Value) (c : Str) (n : Nat) (F : List D → Option (Option Bool × List Str × List D)) : Sp := fun vs H Q _ => vs.length = n + 1 ∧ ∃ x C dx kvs us f ds fp fs xs, vs = .ref x :: us ∧ mg c = some (.ref C) ∧ H x = some (.ins C dx kvs) ∧ H dx = some (.own x) ∧ kvs.map (·.1) = fs ∧ VAll K mg H xs (kvs.map (·.2)) f ∧
  (x :: f).Nodup ∧ (∀ a ∈ x :: f, Mut (H a)) ∧ VAll K mg H ds us fp ∧ (∀ a ∈ fp, a ∉ x :: f) ∧ ∃ r, F (.ins c none fs xs :: ds) = some r ∧
  ∀ H' f1, SmX (x :: f) H H' → Val K mg H' (.ins c (some dx) r.2.1 r.2.2) (.ref x) f1 → f1.Nodup → (∀ a ∈ f1, (a ∈ x :: f ∨ H a = none) ∧ Mut (H' a)) → Q (ioV r.1) H'
section
variable {P : Program} {w : World} {K : PySem.W.Frag} {mg : Str → Option Value} {base : Heap}
theorem startIO_eo {H : Hp} {x dx C : Addr} {c : Str} {kvs : List (Str × V)} {fs : List Str} {xs ds : List D} {us : List V} {f fp : List Addr} {N : List Str} (hC : mg c = some (.ref C)) (h1 : H x = some (.ins C dx kvs)) (h2 : H dx = some (.own x)) (h3 : kvs.map (·.1) = fs) (h4 : VAll K mg H xs (kvs.map (·.2)) f) (nd : (x :: f).Nodup) (mu : ∀ a ∈ x :: f, Mut (H a))
    (h : VAll K mg H ds us fp) (ap : ∀ a ∈ fp, a ∉ x :: f) : EO K mg (fun b => if b ∈ x :: f then none else H b) (startIO c N.length dx fs xs ds) (start N (.ref x :: us)) H := by
  obtain ⟨fps, q⟩ := h.fpsS
  have hl := h.length
  have row : ∀ i d, look (ds.map Sl.sh ++ List.replicate (N.length - (ds.length + 1)) .un) i = some d → ds[i]? = some d := fun i d hd => by
    unfold look at hd
    by_cases c : i < ds.length
    · rw [List.getElem?_append_left (by simpa using c), List.getElem?_map, List.getElem?_eq_getElem c] at hd
      simp only [Option.map_some, Option.bind_some, Sl.val, Option.some.injEq] at hd
      rw [List.getElem?_eq_getElem c, hd]
    · rw [List.getElem?_append_right (by simpa using c), List.getElem?_replicate] at hd
      split at hd <;> simp [Sl.val] at hd
  refine ⟨fun i => match i with | 0 => x :: f | i + 1 => fps i, ?_, fun i d hd => ?_, fun i d hd => ?_, fun b o hb => ?_⟩
  · simp [startIO, L2.start, hl]
  · cases i with
    | zero =>
      have e : d = .ins c (some dx) fs xs := (Option.some.inj hd).symm
      subst e
      refine ⟨.ref x, rfl, ?_⟩
      simp only [Val]
      exact ⟨x, C, dx, kvs, f, rfl, rfl, hC, h1, h3, h4, fun i hi => by cases hi; exact ⟨rfl, h2⟩⟩
    | succ i =>
      obtain ⟨v, q1, q2, _⟩ := q i d (row i d hd)
      refine ⟨v, ?_, q2⟩
      have hi := (List.getElem?_eq_some_iff.mp q1).1
      show ((V.ref x :: us).map some ++ _)[i + 1]? = _
      simp only [List.map_cons, List.cons_append, List.getElem?_cons_succ]
      rw [List.getElem?_append_left (by simpa using hi), List.getElem?_map, q1]; rfl
  · cases i with
    | zero =>
      refine ⟨nd, fun a ha => ⟨if_pos ha, mu a ha⟩, fun j d' hj hl' a ha => ?_⟩
      cases j with
      | zero => exact absurd rfl hj
      | succ j =>
        obtain ⟨v, q1, q2, q3⟩ := q j d' (row j d' hl')
        exact fun z => ap a (q3 a z) ha
    | succ i =>
      exfalso
      simp only [startIO, List.getElem?_cons_succ] at hd
      by_cases c : i < ds.length
      · rw [List.getElem?_append_left (by simpa using c), List.getElem?_map, List.getElem?_eq_getElem c] at hd
        cases hd
      · rw [List.getElem?_append_right (by simpa using c), List.getElem?_replicate] at hd
        split at hd <;> cases hd
  · split at hb
    · cases hb
    · exact hb
/-- what is left of an instance that is known by its dict -/
theorem io_back {H H' : Hp} {x dx : Addr} {c : Str} {fs : List Str} {xs : List D} {x' : V} {f1 : List Addr} (h2 : H dx = some (.own x)) (k : H' dx = some (.own x)) (h : Val K mg H' (.ins c (some dx) fs xs) x' f1) : x' = .ref x := by
  simp only [Val] at h
  obtain ⟨a, C', dx', kvs, f', ev, ef, hm, ha, hk, hvs, hw⟩ := h
  obtain ⟨w1, w2⟩ := hw dx rfl
  subst w1
  rw [k] at w2
  cases w2
  exact ev
theorem okIO {m qual : Str} {c : Str} {st : Stmt} {f : Addr} {fd : FuncData} {N ps : List Str} {k n : Nat} {G : En → Fl} (F : Fun K m qual st f fd) (S : FnScope N ps (defScope st)) (hn : ps.length = n + 1)
    (body : ∀ (cdv : Value) (A : Around) (outer : List Env) (s : Shared) (H : Hp) (E : XK), Room k (A.deeper (envOfC qual (defScope st) s.heap.objs.size f cdv)) → Takes (cxOf (L2.CX P w) P w K mg base N qual (defScope st) f cdv A outer s H E) (fun cls d _ H => E cls d H) →
      DSs (cxOf (L2.CX P w) P w K mg base N qual (defScope st) f cdv A outer s H E) (fun cls d _ H => E cls d H) (defBody st) G) :
    FnOk P w K mg base (L2.CX P w) (k + 1) f fd ps (spIO K mg c n (mkIO c n N.length G)) := by
  refine F.okX S (fun vs H Q E h => by rw [h.1, hn]) fun cdv A outer s H vs Q E hr h => ⟨_, body cdv A outer s H E hr (takes_of rfl rfl rfl rfl), ?_⟩
  obtain ⟨hl, x, C, dx, kvs, us, f0, ds, fp, fs, xs, rfl, hC, h1, h2, h3, h4, nd, mu, hv, ap, r, hr', q⟩ := h
  have ndx : dx ∉ x :: f0 := fun z => by have := mu dx z; rw [h2] at this; exact this
  refine ⟨_, _, startIO_eo (N := N) hC h1 h2 h3 h4 nd mu hv ap, ?_⟩
  have zk : ∀ {H' : Hp}, Sm (fun b => if b ∈ x :: f0 then none else H b) H' → SmX (x :: f0) H H' := fun e b o hb ho => e b o (by show (if b ∈ x :: f0 then none else H b) = some o; rw [if_neg hb]; exact ho)
  have fr : ∀ {a : Addr}, (if a ∈ x :: f0 then none else H a) = none → a ∈ x :: f0 ∨ H a = none := fun {a} z => by
    by_cases w : a ∈ x :: f0
    · exact .inl w
    · rw [if_neg w] at z; exact .inr z
  have ok := mkIO_some hr'
  obtain ⟨_, _, ok⟩ := ok
  have ok := ok dx
  cases hg : G (startIO c N.length dx fs xs ds) with
  | rt d =>
    rw [hg] at ok
    simp only [IOend] at ok
    subst ok
    intro v H' fq e hv' hn' hp'
    simp only [Val] at hv'
    obtain ⟨ev, x', hx'⟩ := hv'
    have kp := zk e
    have hb := io_back h2 (kp dx _ ndx h2) hx'
    subst hb
    subst ev
    exact q H' fq kp hx' hn' fun a ha => ⟨fr (hp' a ha).1, (hp' a ha).2⟩
  | nx e =>
    rw [hg] at ok
    simp only [IOend] at ok
    intro σ' H' E'
    obtain ⟨g, E'⟩ := E'
    obtain ⟨v, q1, q2⟩ := E'.val 0 _ (look_ow ok.2)
    obtain ⟨o1, o2, _⟩ := E'.own 0 _ ok.2
    have kp := zk E'.keep
    have hb := io_back h2 (kp dx _ ndx h2) q2
    subst hb
    rw [ok.1] at q
    exact q H' (g 0) kp q2 o1 fun a ha => ⟨fr (o2 a ha).1, (o2 a ha).2⟩
  | _ => rw [hg] at ok; exact ok.elim
/-- a method of c that changes its instance as F tells -/
def MethIO (P : Program) (w : World) (K : PySem.W.Frag) (mg : Str → Option Value) (base : Heap) (k n : Nat) (c m : Str) (F : List D → Option (Option Bool × List Str × List D)) : Prop :=
  ∃ C f fd ps, mg c = some (.ref C) ∧ Cls K C ∧ Meth K C m f ∧ Binds K fd ps [] ∧ FnOk P w K mg base (L2.CX P w) k f fd ps (spIO K mg c n F)
end
end DL
set_option Elab.async false
set_option linter.all false
set_option maxRecDepth 100000
set_option maxHeartbeats 2000000
namespace DL
open PySem PySem.Spec PyProof.Rows L2
section
variable {P : Program} {w : World} {K : PySem.W.Frag} {mg : Str → Option Value} {base h : Heap}
theorem okMIO {c m qual : Str} {st : Stmt} {N ps : List Str} {k n : Nat} {G : En → Fl} (r : RawM K mg c m qual st ps) (S : FnScope N ps (defScope st)) (hn : ps.length = n + 1)
    (body : ∀ (f : Addr) (cdv : Value) (A : Around) (outer : List Env) (s : Shared) (H : Hp) (E : XK), Room k (A.deeper (envOfC qual (defScope st) s.heap.objs.size f cdv)) → Takes (cxOf (L2.CX P w) P w K mg base N qual (defScope st) f cdv A outer s H E) (fun cls d _ H => E cls d H) →
      DSs (cxOf (L2.CX P w) P w K mg base N qual (defScope st) f cdv A outer s H E) (fun cls d _ H => E cls d H) (defBody st) G) : MethIO P w K mg base (k + 1) n c m (mkIO c n N.length G) := by
  obtain ⟨C, f, fd, h1, h2, h3, h4, h5⟩ := r
  exact ⟨C, f, fd, ps, h1, h2, h3, h5, okIO h4 S hn (body f)⟩
end
/-! ### such a method called on a slot's own instance -/
/-- an expression that may change the slots' own things: what it gives is True, False or None -/
def tM (K : PySem.W.Frag) (mg : Str → Option Value) (F : En → Option (Option Bool × En)) : TE := fun σ H Q => ∃ Z env, EO K mg Z env σ H ∧ ∃ r, F env = some r ∧ ∀ H', EO K mg Z r.2 σ H' → Q (ioV r.1) H'
abbrev DM (X : Cx) (e : Expr) (F : En → Option (Option Bool × En)) : Prop := PE X e (tM X.K X.mg F)
def eIO (i : Nat) (c m : Str) (n : Nat) (F : List D → Option (Option Bool × List Str × List D)) (g : En → R (List D)) (env : En) : Option (Option Bool × En) := match env[i]? with
  | some (.ow (.ins c' id fs xs)) => if c' = c ∧ fs.contains m = false then (match g (env.set i .un) with
    | .ok ds => if ds.length = n then (F (.ins c none fs xs :: ds)).map fun r => (r.1, env.set i (.ow (.ins c id r.2.1 r.2.2))) else none
    | _ => none) else none
  | _ => none
section
variable {X : Cx} {W : WX} {k n j i : Nat} {F : List D → Option (Option Bool × List Str × List D)} {c m : Str} {apos pos px : Pos} {y : Str} {e : Expr} {es : List Expr} {g : En → R (List D)}
/-- what is known of the slots but one -/
theorem ER.pen {K : PySem.W.Frag} {mg : Str → Option Value} {Z H : Hp} {env : En} {σ : L2.St} {fps : Nat → List Addr} (E : ER K mg Z env σ H fps) (i : Nat) : PEnv K mg (fun a => ∃ j d, j ≠ i ∧ look env j = some d ∧ a ∈ fps j) (env.set i .un) σ H := ⟨by rw [List.length_set]; exact E.len, fun j d hd => by
  by_cases c : j = i
  · subst c
    unfold look at hd
    by_cases l : j < env.length
    · rw [List.getElem?_set_self l] at hd; cases hd
    · rw [List.getElem?_eq_none (by rw [List.length_set]; omega)] at hd; cases hd
  · have hd' : look env j = some d := by
      unfold look at hd ⊢
      rwa [List.getElem?_set_ne (Ne.symm c)] at hd
    obtain ⟨v, q1, q2⟩ := E.val j d hd'
    exact ⟨v, _, q1, q2, fun a ha => ⟨j, d, c, hd', ha⟩⟩⟩
/-- the slot's own instance is changed -/
theorem ER.io {K : PySem.W.Frag} {mg : Str → Option Value} {Z H H' : Hp} {env : En} {σ : L2.St} {fps : Nat → List Addr} (E : ER K mg Z env σ H fps) {i : Nat} {d d' : D} {x : Addr} {f f1 : List Addr} (hi : env[i]? = some (.ow d)) (ef : fps i = x :: f) (hx : σ[i]? = some (some (.ref x))) (s : SmX (x :: f) H H')
    (hv : Val K mg H' d' (.ref x) f1) (nd : f1.Nodup) (hf : ∀ a ∈ f1, (a ∈ x :: f ∨ H a = none) ∧ Mut (H' a)) : ER K mg Z (env.set i (.ow d')) σ H' (fun j => if j = i then f1 else fps j) := by
  have hl := (List.getElem?_eq_some_iff.mp hi).1
  obtain ⟨o1, o2, o3⟩ := E.own i d hi
  have keep : ∀ {j d0 v}, j ≠ i → look env j = some d0 → Val K mg H d0 v (fps j) → Val K mg H' d0 v (fps j) := fun {j d0 v} hj hl' h0 => by
    have off : ∀ b ∈ fps j, b ∉ x :: f := fun b hb z => o3 j d0 hj hl' b (by rw [ef]; exact z) hb
    have nm : ∀ b u, H b = some u → ¬ Mut (some u) → b ∉ x :: f := fun b u hb hm z => by
      have := (o2 b (by rw [ef]; exact z)).2
      rw [hb] at this; exact hm this
    exact Val.kp d0 h0 ⟨fun b u hb h => by
        rcases h with h | ⟨o, h⟩
        · exact .inl (s _ _ (off b hb) h)
        · exact .inr ⟨o, s _ _ (off b hb) h⟩,
      fun b vs hb h => s _ _ (off b hb) h, fun b o vs h => s _ _ (nm b _ h id) h, fun b C dx fs hb h => s _ _ (off b hb) h, fun b xs h => s _ _ (nm b _ h id) h, fun b u h => s _ _ (nm b _ h id) h, fun b o C dx fs h => s _ _ (nm b _ h id) h⟩
  have apart : ∀ {j d0}, j ≠ i → look env j = some d0 → ∀ a ∈ f1, a ∉ fps j := fun {j d0} hj hl' a ha z => by
    rcases (hf a ha).1 with q | q
    · exact o3 j d0 hj hl' a (by rw [ef]; exact q) z
    · obtain ⟨v, _, h0⟩ := E.val j d0 hl'
      exact h0.gone z q
  refine ⟨by rw [List.length_set]; exact E.len, fun j d0 h0 => ?_, fun j d0 h0 => ?_, fun b o hb => ?_⟩
  · rw [look_set hl] at h0
    by_cases cj : j = i
    · subst cj
      rw [if_pos rfl] at h0
      cases h0
      exact ⟨.ref x, hx, by simpa using hv⟩
    · rw [if_neg cj] at h0
      obtain ⟨v, q1, q2⟩ := E.val j d0 h0
      exact ⟨v, q1, by simpa [cj] using keep cj h0 q2⟩
  · by_cases cj : j = i
    · subst cj
      simp only [if_true]
      refine ⟨nd, fun a ha => ⟨?_, (hf a ha).2⟩, fun k0 d1 hk hl1 a ha => ?_⟩
      · rcases (hf a ha).1 with q | q
        · exact (o2 a (by rw [ef]; exact q)).1
        · exact E.keep.back q
      · rw [look_set hl, if_neg hk] at hl1
        rw [if_neg hk]
        exact apart hk hl1 a ha
    · rw [List.getElem?_set_ne (Ne.symm cj)] at h0
      obtain ⟨p1, p2, p3⟩ := E.own j d0 h0
      rw [if_neg cj]
      have off : ∀ b ∈ fps j, b ∉ x :: f := fun b hb z => o3 j d0 cj (look_ow h0) b (by rw [ef]; exact z) hb
      refine ⟨p1, fun a ha => ⟨(p2 a ha).1, ?_⟩, fun k0 d1 hk hl1 a ha => ?_⟩
      · have := (p2 a ha).2
        cases q : H a with
        | none => rw [q] at this; exact this.elim
        | some u => rw [s a u (off a ha) q]; rw [q] at this; exact this
      · by_cases ck : k0 = i
        · subst ck
          simp only [if_true]
          exact fun z => apart cj (look_ow h0) a z ha
        · rw [look_set hl, if_neg ck] at hl1
          rw [if_neg ck]
          exact p3 k0 d1 hk hl1 a ha
  · have hb' := E.keep b o hb
    refine s b o (fun z => ?_) hb'
    have := (o2 b (by rw [ef]; exact z)).1
    rw [this] at hb; cases hb
theorem io_args {K : PySem.W.Frag} {mg : Str → Option Value} {Z H : Hp} {env : En} {σ : L2.St} {fps : Nat → List Addr} (E : ER K mg Z env σ H fps) {c' : Str} {id : Option Nat} {fs : List Str} {xs : List D} (hi : env[i]? = some (.ow (.ins c' id fs xs))) :
    ∃ a C dx kvs f, σ[i]? = some (some (.ref a)) ∧ fps i = a :: f ∧ mg c' = some (.ref C) ∧ H a = some (.ins C dx kvs) ∧ kvs.map (·.1) = fs ∧ VAll K mg H xs (kvs.map (·.2)) f ∧ (a :: f).Nodup ∧ (∀ b ∈ a :: f, Mut (H b)) ∧ (∀ k, id = some k → dx = k ∧ H dx = some (.own a)) := by
  obtain ⟨v, s1, hv⟩ := E.val i _ (look_ow hi)
  obtain ⟨o1, o2, _⟩ := E.own i _ hi
  simp only [Val] at hv
  obtain ⟨a, C, dx, kvs, f, ev, ef, hm, ha, hk, hvs, hw⟩ := hv
  subst ev
  rw [ef] at o1 o2
  exact ⟨a, C, dx, kvs, f, s1, ef, hm, ha, hk, hvs, o1, fun b hb => (o2 b hb).2, hw⟩
theorem io_spec {Z H H2 : Hp} {env : En} {σ : L2.St} {fps : Nat → List Addr} {Q : VK} (E : ER X.K X.mg Z env σ H fps) {id : Option Nat} {fs : List Str} {xs ds : List D} {vs : List V} {fp : List Addr} {a C0 dx : Addr} {kvs : List (Str × V)} {f : List Addr} {r : Option Bool × List Str × List D}
    (hi : env[i]? = some (.ow (.ins c id fs xs))) (s1 : σ[i]? = some (some (.ref a))) (ef : fps i = a :: f) (hm : X.mg c = some (.ref C0)) (ha : H a = some (.ins C0 dx kvs)) (hd : H dx = some (.own a)) (hk : kvs.map (·.1) = fs) (hvs : VAll X.K X.mg H xs (kvs.map (·.2)) f) (nd : (a :: f).Nodup) (mu : ∀ b ∈ a :: f, Mut (H b)) (hw : ∀ k, id = some k → dx = k ∧ H dx = some (.own a))
    (e2 : Sm H H2) (hvs2 : VAll X.K X.mg H2 ds vs fp) (hp : ∀ b ∈ fp, (∃ j d, j ≠ i ∧ look env j = some d ∧ b ∈ fps j) ∨ H b = none) (hl : ds.length = n) (hF : F (.ins c none fs xs :: ds) = some r) (q : ∀ H', EO X.K X.mg Z (env.set i (.ow (.ins c id r.2.1 r.2.2))) σ H' → Q (ioV r.1) H') : spIO X.K X.mg c n F (.ref a :: vs) H2 Q (WE W σ) := by
  refine ⟨by rw [List.length_cons, hvs2.length, hl], a, C0, dx, kvs, vs, f, ds, fp, fs, xs, rfl, hm, e2 _ _ ha, e2 _ _ hd, hk, hvs.sm e2, nd, fun b hb => mut_sm e2 (mu b hb), hvs2, fun b hb z => ?_, r, hF, fun H' f1 sx hv' nd' hf => q H' ⟨_, (E.sm e2).io hi ef s1 sx ?_ nd' hf⟩⟩
  · rcases hp b hb with ⟨j, d, hj, hl', hb'⟩ | h0
    · exact (E.own i _ hi).2.2 j d hj hl' b (by rw [ef]; exact z) hb'
    · have := mu b z
      rw [h0] at this; exact this
  · simp only [Val] at hv' ⊢
    obtain ⟨a', C', dx', kvs', f', ev, ef', hm', ha', hk', hvs', hw'⟩ := hv'
    exact ⟨a', C', dx', kvs', f', ev, ef', hm', ha', hk', hvs', fun k0 hk0 => by
      obtain ⟨w1, w2⟩ := hw k0 hk0
      obtain ⟨u1, u2⟩ := hw' dx rfl
      exact ⟨u1.trans w1, u2⟩⟩
theorem dm_io {plain0 : Sem Bool} (G : MethIO X.prog X.w X.K X.mg X.base k n c m F) (hr : Room j X.A) (hk : k ≤ j) (tk : Takes X W) (hy : PE X (.Name y px) (tVar i)) (ha : DA X W (e :: es) g)
    (h1 : starEach (e :: es) X.env = (false, eval e X.env) :: starEach es X.env := by rfl) (h2 : (backTo pos (starEach es X.env)).any (·.1) = false := by rfl)
    (h3 : eval (.Call (.Attribute (.Name y px) m apos) (e :: es) [] pos) X.env = (do
      let ov ← eval (.Name y px) X.env
      standAt apos.atName
      let (f, first) ← holding [ov] (getMethod ov m plain0)
      callWith pos f first (backTo pos (starEach (e :: es) X.env)) (backToKw pos (keywordEach [] X.env))) := by rfl) :
    DM X (.Call (.Attribute (.Name y px) m apos) (e :: es) [] pos) (eIO i c m n F g) := by
  obtain ⟨C0, f0, fd, ps, hC, cl, hm, hb, fn⟩ := G
  refine ⟨fun pins s σ H Q I ⟨Z, env, E0, r, er, q⟩ => ?_⟩
  obtain ⟨fps, E⟩ := E0
  unfold eIO at er
  split at er
  · rename_i c' id fs xs hi
    split at er
    · rename_i hc
      obtain ⟨rfl, hno⟩ := hc
      split at er
      · rename_i ds hg
        split at er
        · rename_i hl
          simp only [Option.map_eq_some_iff] at er
          obtain ⟨r0, hF, rfl⟩ := er
          obtain ⟨a, C, dx, kvs, f, s1, ef, hmg, hH, hkk, hvs, nd, mu, hw⟩ := io_args E hi
          rw [hC] at hmg; cases hmg
          have hd : H dx = some (.own a) := (show ObjOk X.prog X.w H s.heap a (.ins C0 dx kvs) from I.hok a _ hH).1
          have q0 : tVar i σ H (fun x H1 => x = .ref a ∧ H1 = H) := ⟨.ref a, s1, rfl, rfl⟩
          refine PySem.W.methodCall_KW (pl := plain0) (thn (hy.run pins s σ H _ I q0) fun u s2 ⟨x, H1, I1, rx, ex, eH⟩ => ?_) h3
          subst ex
          subst eH
          obtain rfl : u = Value.ref a := rx
          refine getmeth_ok I1 hH cl hm (lookup_none (by rw [hkk]; exact hno)) ?_
          have q1 : tA X.K X.mg W g σ H1 (fun vs H2 => spIO X.K X.mg c' n F (.ref a :: vs) H2 Q (WE W σ)) := by
            refine ⟨_, env.set i .un, E.pen i, ?_⟩
            rw [hg]
            exact fun vs H2 fp e2 hvs2 hp => io_spec E hi s1 ef hC hH hd hkk hvs nd mu hw e2 hvs2 hp hl hF q
          refine PySem.W.callWith_K (first := [.ref a]) (h₀ := X.base) I.ok.mod.kin hm.kp (thn (ha.run pos pins s2 σ H1 _ I1 q1) fun us s3 ⟨vs, H2, I2, rr, q2⟩ => ⟨I2.kIn, ?_⟩) h1 h2
          exact run_fnS (us := .ref a :: us) (vs := .ref a :: vs) (E := fun σ => WE W σ) fn (hr.mono hk) hb (passAt tk σ) I2 (.cons rfl rr) q2
        · cases er
      · cases er
    · cases er
  · cases er
theorem dm_io0 {plain0 : Sem Bool} (G : MethIO X.prog X.w X.K X.mg X.base k 0 c m F) (hr : Room j X.A) (hk : k ≤ j) (tk : Takes X W) (hy : PE X (.Name y px) (tVar i))
    (h3 : eval (.Call (.Attribute (.Name y px) m apos) [] [] pos) X.env = (do
      let ov ← eval (.Name y px) X.env
      standAt apos.atName
      let (f, first) ← holding [ov] (getMethod ov m plain0)
      callWith pos f first (backTo pos (starEach [] X.env)) (backToKw pos (keywordEach [] X.env))) := by rfl) :
    DM X (.Call (.Attribute (.Name y px) m apos) [] [] pos) (eIO i c m 0 F eNil) := by
  obtain ⟨C0, f0, fd, ps, hC, cl, hm, hb, fn⟩ := G
  refine ⟨fun pins s σ H Q I ⟨Z, env, E0, r, er, q⟩ => ?_⟩
  obtain ⟨fps, E⟩ := E0
  unfold eIO at er
  split at er
  · rename_i c' id fs xs hi
    split at er
    · rename_i hc
      obtain ⟨rfl, hno⟩ := hc
      split at er
      · rename_i ds hg
        split at er
        · rename_i hl
          simp only [Option.map_eq_some_iff] at er
          obtain ⟨r0, hF, rfl⟩ := er
          obtain ⟨a, C, dx, kvs, f, s1, ef, hmg, hH, hkk, hvs, nd, mu, hw⟩ := io_args E hi
          rw [hC] at hmg; cases hmg
          have hd : H dx = some (.own a) := (show ObjOk X.prog X.w H s.heap a (.ins C0 dx kvs) from I.hok a _ hH).1
          have q0 : tVar i σ H (fun x H1 => x = .ref a ∧ H1 = H) := ⟨.ref a, s1, rfl, rfl⟩
          refine PySem.W.methodCall_KW (pl := plain0) (thn (hy.run pins s σ H _ I q0) fun u s2 ⟨x, H1, I1, rx, ex, eH⟩ => ?_) h3
          subst ex
          subst eH
          obtain rfl : u = Value.ref a := rx
          refine getmeth_ok I1 hH cl hm (lookup_none (by rw [hkk]; exact hno)) ?_
          have e0 : ds = [] := by
            have : DL.R.ok [] = DL.R.ok ds := hg
            cases this; rfl
          subst e0
          have q2 := io_spec (W := W) (n := 0) (vs := []) (fp := []) E hi s1 ef hC hH hd hkk hvs nd mu hw (Sm.refl _) VAll.nil (by simp) rfl hF q
          exact PySem.W.callWith_K0 (first := [.ref a]) I1.kIn hm.kp (run_fnS (us := [.ref a]) (vs := [.ref a]) (E := fun σ => WE W σ) fn (hr.mono hk) hb (passAt tk σ) I1 (.cons rfl .nil) q2)
        · cases er
      · cases er
    · cases er
  · cases er
end
/-! ### statements about such calls -/
def tMT (K : PySem.W.Frag) (mg : Str → Option Value) (F : En → Option (Bool × En)) : TT := fun σ H Q => ∃ Z env, EO K mg Z env σ H ∧ ∃ r, F env = some r ∧ ∀ H', EO K mg Z r.2 σ H' → Q r.1 H'
abbrev DMT (X : Cx) (e : Expr) (F : En → Option (Bool × En)) : Prop := PT X e (tMT X.K X.mg F)
def eMB (F : En → Option (Option Bool × En)) (env : En) : Option (Bool × En) := match F env with
  | some (some b, e) => some (b, e)
  | _ => none
def eMNot (F : En → Option (Bool × En)) (env : En) : Option (Bool × En) := (F env).map fun r => (!r.1, r.2)
section
variable {X : Cx} {W : WX} {pos : Pos} {e : Expr}
theorem dmt_val {F : En → Option (Option Bool × En)} (h : DM X e F) (he : ∀ whole, isTrue e X.env whole = (do let v ← whole; standAt e.pos; holding [v] (truthy v)) := by intro _; rfl) : DMT X e (eMB F) :=
  pt_weak (pt_val h he) fun σ H Q ⟨Z, env, E, r, er, q⟩ => by
    unfold eMB at er
    split at er
    · rename_i b e' hF
      cases er
      exact ⟨Z, env, E, _, hF, fun H' E' => ⟨b, rfl, q H' E'⟩⟩
    · cases er
theorem dmt_not {F : En → Option (Bool × En)} (h : DMT X e F) : DMT X (.UnaryOp .Not e pos) (eMNot F) :=
  pt_weak (pt_not h) fun σ H Q ⟨Z, env, E, r, er, q⟩ => by
    unfold eMNot at er
    simp only [Option.map_eq_some_iff] at er
    obtain ⟨r0, h0, rfl⟩ := er
    exact ⟨Z, env, E, _, h0, fun H' E' => q H' E'⟩
def sIfM (F : En → Option (Bool × En)) (T E : En → Fl) (env : En) : Fl := match F env with
  | some (b, e) => if b = true then T e else E e
  | none => .no
theorem ds_ifM {a b : List Stmt} {F : En → Option (Bool × En)} {S T : En → Fl} (hc : DMT X e F) (ha : DSs X W a S) (hb : DSs X W b T) : DS X W (.If e a b pos) (sIfM F S T) := ps_weak (ps_if hc ha hb) fun D σ H ⟨Z, env, E, g⟩ => by
  unfold sIfM at g
  split at g
  · rename_i b e' hF
    refine ⟨Z, env, E, _, hF, fun H' E' => ?_⟩
    cases b with
    | true => simp only [if_true] at g ⊢; exact ⟨Z, e', E', g⟩
    | false => simp only [Bool.false_eq_true, if_false] at g ⊢; exact ⟨Z, e', E', g⟩
  · exact g.elim
def wloopM (c : En → Option (Bool × En)) (body : En → Fl) : Nat → En → Fl
  | 0, _ => .no
  | n + 1, env => match c env with
    | some (true, e) => (match body e with
      | .nx e => wloopM c body n e
      | .ct e => wloopM c body n e
      | .bk e => .nx e
      | r => r)
    | some (false, e) => .nx e
    | none => .no
def sWhileM (n : Nat) (c : En → Option (Bool × En)) (body : En → Fl) (env : En) : Fl := wloopM c body n env
theorem ds_whileM {n : Nat} {c : Expr} {body : List Stmt} {t : En → Option (Bool × En)} {F : En → Fl} (hc : DMT X c t) (hb : DSs X W body F) (hp : PassesOwn (model X.prog X.w) X.A X.env X.xe) : DS X W (.While c body [] pos) (sWhileM n t F) :=
  ps_weak (ps_while hp hc hb) fun D σ H ⟨Z, env, E, g⟩ => by
    refine ⟨fun m σ H => ∃ env, EO X.K X.mg Z env σ H ∧ Go X.K X.mg W Z D (wloopM t F m env), ⟨n, env, E, g⟩, ?_⟩
    rintro m σ H ⟨env, E, g⟩
    cases m with
    | zero => exact g.elim
    | succ m =>
      unfold wloopM at g
      split at g
      · rename_i e1 hF
        refine ⟨Z, env, E, _, hF, fun H' E' => ?_⟩
        simp only [if_true]
        refine ⟨fun σ' H' => ∃ env, EO X.K X.mg Z env σ' H' ∧ Go X.K X.mg W Z D (wloopM t F m env), fun σ' H' h => ⟨m, Nat.lt_succ_self m, h⟩, Z, e1, E', ?_⟩
        cases q : F e1 with
        | nx e' => rw [q] at g; exact fun σ' H' E' => ⟨e', E', g⟩
        | ct e' => rw [q] at g; exact fun σ' H' E' => ⟨e', E', g⟩
        | bk e' => rw [q] at g; exact g
        | rt d => rw [q] at g; exact g
        | ex c e' => rw [q] at g; exact g
        | no => rw [q] at g; exact g
      · rename_i e1 hF
        refine ⟨Z, env, E, _, hF, fun H' E' => ?_⟩
        simp only [Bool.false_eq_true, if_false]
        exact g σ H' E'
      · exact g.elim
def sDoM (F : En → Option (Option Bool × En)) (env : En) : Fl := match F env with
  | some (_, e) => .nx e
  | none => .no
theorem ds_doM {F : En → Option (Option Bool × En)} (h : DM X e F) (hs : swapsWith e none pos.line X.env = pure false := by rfl) : DS X W (.Expr e pos) (sDoM F) := ps_weak (ps_expr h hs) fun D σ H ⟨Z, env, E, g⟩ => by
  unfold sDoM at g
  split at g
  · rename_i b e' hF
    exact ⟨Z, env, E, _, hF, fun H' E' => g σ H' E'⟩
  · exact g.elim
/-- return e in a method that changes its instance -/
def sRetIO (f : En → R D) (env : En) : Fl := onE (f env) env fun d => match (env[0]? : Option Sl), d with
  | some (.ow s), .bl b => .rt (.io (some b) s)
  | _, _ => .no
theorem ds_retIO {f : En → R D} (h : DE X W e f) : DS X W (.Return (some e) pos) (sRetIO f) := ps_weak (ps_ret h) fun D σ H ⟨Z, env, E, g⟩ => by
  have E' := E
  obtain ⟨fps, E⟩ := E
  refine ⟨_, env, E.penv, (Go.out E' g).imp fun d g v H' fp e hv hp => ?_⟩
  split at g
  · rename_i s b hs
    have E2 := E.sm e
    obtain ⟨x, _, hx⟩ := E2.val 0 _ (look_ow hs)
    obtain ⟨o1, o2, _⟩ := E2.own 0 _ hs
    simp only [Val] at hv
    refine g v H' (fps 0) (E.keep.trans e) ?_ o1 o2
    simp only [Val]
    exact ⟨hv.1, x, hx⟩
  · exact g.elim
end
end DL
set_option Elab.async false
set_option linter.all false
set_option maxRecDepth 100000
set_option maxHeartbeats 2000000
namespace DL
open PySem PySem.Spec PyProof.Rows L2
section
variable {X : Cx} {W : WX} {k n j : Nat} {F : List D → R D} {c m : Str} {apos pos : Pos} {o : Expr} {fo : En → R D}
/-! ### a method without arguments -/
theorem df_meth0 {plain0 : Sem Bool} (G : MethD X.prog X.w X.K X.mg X.base k n c m F) (hr : Room j X.A) (hk : k ≤ j) (tk : Takes X W) (ho : DE X W o fo)
    (h3 : eval (.Call (.Attribute o m apos) [] [] pos) X.env = (do
      let ov ← eval o X.env
      standAt apos.atName
      let (f, first) ← holding [ov] (getMethod ov m plain0)
      callWith pos f first (backTo pos (starEach [] X.env)) (backToKw pos (keywordEach [] X.env))) := by rfl) :
    DF X W (.Call (.Attribute o m apos) [] [] pos) (eMeth c m n F fo eNil) := by
  obtain ⟨C0, f0, fd, ps, hC, cl, hm, hb, fn⟩ := G
  refine ⟨fun pins s σ H Q I ⟨S, env, P, q⟩ => ?_⟩
  have q0 : tE X.K X.mg W fo σ H (fun x H1 => ∃ a dx fs d fp, x = .ref a ∧ Rd H1 a (.ins C0 dx fs) ∧ fs.lookup m = none ∧ Sm H H1 ∧ Val X.K X.mg H1 d x fp ∧ Out X.mg W σ H1 (eNil env >>= fun ds => if ds.length + 1 = n then F (d :: ds) else .no) fun r => AfterF X.K X.mg H r Q) := by
    refine stE P q fun d v H1 fp e1 hv hp qq => ?_
    split at qq
    · rename_i hi
      have hv0 := hv
      cases d with
      | ins c' id fs xs =>
        simp only [insOf, Bool.and_eq_true, decide_eq_true_eq, Bool.not_eq_true'] at hi
        obtain ⟨hcc, hno⟩ := hi
        subst hcc
        simp only [Val] at hv
        obtain ⟨a, C, dx, kvs, gg, e2, ef, hmm, hH, hkk, hvs, _⟩ := hv
        rw [hC] at hmm; cases hmm
        subst hkk
        exact ⟨a, dx, kvs, _, fp, e2, .inl hH, lookup_none hno, e1, hv0, qq⟩
      | fi c' fs xs =>
        simp only [insOf, Bool.and_eq_true, decide_eq_true_eq, Bool.not_eq_true'] at hi
        obtain ⟨hcc, hno⟩ := hi
        subst hcc
        simp only [Val] at hv
        obtain ⟨a, C, dx, kvs, o', e2, hmm, hH, hkk, hvs⟩ := hv
        rw [hC] at hmm; cases hmm
        subst hkk
        exact ⟨a, dx, kvs, _, fp, e2, .inr ⟨_, hH⟩, lookup_none hno, e1, hv0, qq⟩
      | _ => simp [insOf] at hi
    · exact qq.elim
  refine PySem.W.methodCall_KW (pl := plain0) (thn (ho.run pins s σ H _ I q0) fun u s1 ⟨x, H1, I1, rx, a, dx, fs, d, fp, ex, ea, l, e1, hv, q⟩ => ?_) h3
  subst ex
  obtain rfl : u = Value.ref a := rx
  refine getmeth_okR I1 ea cl hm l ?_
  have q2 : spD X.K X.mg n F [.ref a] H1 Q (WE W σ) := by
    have q' : Out X.mg W σ H1 (if ([] : List D).length + 1 = n then F (d :: []) else .no) fun r => AfterF X.K X.mg H r Q := q
    split at q'
    · rename_i hl
      exact meth_q e1 hv VAll.nil hl q'
    · exact q'.elim
  exact PySem.W.callWith_K0 (first := [.ref a]) I1.kIn hm.kp (run_fnS (us := [.ref a]) (vs := [.ref a]) (E := fun σ => WE W σ) fn (hr.mono hk) hb (passAt tk σ) I1 (.cons rfl .nil) q2)
end
/-! ### xs[i] op= e, xs a place's own list of numbers -/
def getLi : V → V → Hp → VK → Prop := fun o i H Q => ∃ p xs k x, o = .ref p ∧ i = .int k ∧ H p = some (.lst xs) ∧ 0 ≤ k ∧ xs[k.toNat]? = some x ∧ Q x H
theorem pget_list {X : Cx} : PGet X getLi := by
  intro pins s σ H o i ov iv Q I ro ri ⟨p, xs, k, x, eo, ei, hp, hk, hx, q⟩
  subst eo; subst ei
  cases ro
  obtain ⟨t, rfl⟩ := ri
  obtain ⟨z, its, n, r, hl, e⟩ := I.lstM hp
  obtain ⟨u, hu, ru⟩ := r.get hx
  have lt : k.toNat < its.length := (List.getElem?_eq_some_iff.mp hu).1
  have sl : (sizeLine : Nat) = 16777216 := rfl
  exact wpAny_getItem_list ⟨_, e, rfl, n, rfl⟩ hk (by omega) (by simpa using hu) ⟨x, H, I, ru, q⟩
def sAugP (i : Nat) (p : PX) (fk : En → R D) (op : Int → Int → Int) (f : En → R D) (env : En) : Fl := onE (resolve i p env) env fun q => onE (fk env) env fun k => match q.2, k with
  | .lst xs, .int k => if 0 ≤ k then (match xs[k.toNat]? with
    | some (.int a) => onE (f env) env fun y => (match y with
      | .int b => (match env[i]? with
        | some (.ow r) => .nx (env.set i (.ow (setP q.1 (.lst (xs.set k.toNat (.int (op a b)))) r)))
        | _ => .no)
      | _ => .no)
    | _ => .no) else .no
  | _, _ => .no
section
variable {X : Cx} {W : WX} {i : Nat} {pos sp : Pos} {e o b : Expr} {p : PX} {fk f : En → R D} {opr : Operator} {op : Int → Int → Int}
theorem ds_augP (h : DE X W e f) (hx : DPx X W i o p) (hk : DE X W b fk) (ho : PIp X opr (ipI op))
    (ha : ∀ ov iv new, augStore b ov iv new = (do holding [new, ov, iv] (setItem ov iv new); release [new, ov, iv] []; pure .next) := by intros; rfl) : DS X W (.AugAssign (.Subscript o b sp) opr e pos) (sAugP i p fk op f) := ps_weak (ps_augS hx hk pget_list h ho set_list ha) fun D σ H ⟨Z, env, E0, g⟩ => by
  have E' := E0
  obtain ⟨fps, E1⟩ := E0
  refine ⟨Z, env, fps, E1, ?_⟩
  have ro : Out X.mg W σ H (resolve i p env) fun q => (Go X.K X.mg W Z D (onE (fk env) env fun k => match q.2, k with
    | .lst xs, .int k => if 0 ≤ k then (match xs[k.toNat]? with
      | some (.int a) => onE (f env) env fun y => (match y with
        | .int b => (match env[i]? with
          | some (.ow r) => .nx (env.set i (.ow (setP q.1 (.lst (xs.set k.toNat (.int (op a b)))) r)))
          | _ => .no)
        | _ => .no)
      | _ => .no) else .no
    | _, _ => .no)) ∧ ∃ r, env[i]? = some (.ow r) ∧ getP q.1 r = some q.2 := by
    have g0 := Go.out E' g
    cases q : resolve i p env with
    | ok w => rw [q] at g0; exact ⟨g0, resolve_get q⟩
    | ex c => rw [q] at g0; exact g0
    | no => rw [q] at g0; exact g0
  refine ro.imp fun w ⟨g, r, hi, hg⟩ H2 v v0 fv e2 s0 hat hv => ?_
  obtain ⟨st, c⟩ := w
  simp only at g hg hat hv
  have E2 := E1.sm e2
  refine ⟨_, env, E2.penv, (Go.out ⟨fps, E2⟩ g).imp fun k g u H3 fk' e3 hu' _ => ?_⟩
  have E3 := E2.sm e3
  cases c with
  | lst xs =>
    cases k with
    | int j =>
      simp only at g
      split at g
      · rename_i hj
        split at g
        · rename_i x0 ia hia
          obtain ⟨v0', v', f', s0', hat', hv', nd', mu', sub', up⟩ := E3.mutP hi hg
          rw [s0] at s0'; cases s0'
          have ev' := (hat.sm e3).one hat'
          subst ev'
          simp only [Val] at hv' hu'
          obtain ⟨a, vs, fl, ev, ef, hA, hvs⟩ := hv'
          subst ev
          obtain ⟨w, f1, fm, f2, q1, q2, q3, q4⟩ := hvs.focus hia
          simp only [Val] at q3
          refine ⟨a, vs, j, w, rfl, hu'.1, hA, hj, q1, ?_⟩
          refine ⟨_, env, E3.penv, (Go.out ⟨fps, E3⟩ g).imp fun y g z H4 fz e4 hz _ => ?_⟩
          split at g
          · rename_i ib
            simp only [Val] at hz
            rw [hi] at g
            simp only at g
            refine ⟨ia, ib, q3.1, hz.1, ?_⟩
            have E4 := E3.sm e4
            obtain ⟨v02, v2, f2', s02, hat2, hv2, nd2, mu2, sub2, up2⟩ := E4.mutP hi hg
            rw [s0] at s02; cases s02
            have ev2 := (hat'.sm e4).one hat2
            subst ev2
            simp only [Val] at hv2
            obtain ⟨a2, vs2, fl2, ev2, ef2, hA2, hvs2⟩ := hv2
            cases ev2
            rw [e4 _ _ hA] at hA2
            cases hA2
            obtain ⟨w2, g1, gm, g2, r1, r2, r3, r4⟩ := hvs2.focus hia
            simp only [Val] at r3
            have gm0 := r3.2
            subst gm0
            subst ef2
            have nfl := List.nodup_cons.mp nd2
            have kp : ∀ {fq}, a ∉ fq → Kp fq H4 (upd H4 a (.lst (vs.set j.toNat (V.int (op ia ib))))) := fun hq => Kp.upd hq (fun xs z => by rw [e4 _ _ hA] at z; cases z) (fun o xs z => by rw [e4 _ _ hA] at z; cases z) (fun o z => by rw [e4 _ _ hA] at z; cases z)
            have a12 : a ∉ g1 ++ g2 := fun z => nfl.1 (by rw [r2]; simpa using z)
            have hlt : j.toNat < vs.length := (List.getElem?_eq_some_iff.mp q1).1
            obtain ⟨fps', E5⟩ := up2 (e' := .lst (xs.set j.toNat (.int (op ia ib)))) (f' := a :: (g1 ++ [] ++ g2)) rfl List.mem_cons_self (o := .lst (vs.set j.toNat (V.int (op ia ib)))) trivial
              (val_lst upd_same (r4 (e' := .int (op ia ib)) (f' := []) (by simp [Val]) (kp a12)))
              (by rw [List.append_nil]; refine List.nodup_cons.mpr ⟨a12, ?_⟩; have := nfl.2; rw [r2] at this; simpa using this)
              fun b hb => .inl (by rw [r2]; simpa using hb)
            refine ⟨a, vs, j, j.toNat, rfl, hu'.1, e4 _ _ hA, ?_, g _ _ ⟨_, E5⟩⟩
            unfold L2.ixN
            rw [if_pos hj, if_pos (by omega)]
          · exact g.elim
        · exact g.elim
      · exact g.elim
    | _ => exact (show False from g).elim
  | _ => exact (show False from g).elim
end
end DL
set_option Elab.async false
set_option linter.all false
set_option maxRecDepth 100000
set_option maxHeartbeats 2000000
namespace DL
open PySem PySem.Spec PyProof.Rows L2
/-! ### x[k], z = e1, e2: e1 what can't be changed, e2 new -/
def setPut (j i : Nat) (xs : List D) (k d1 d2 : D) (env : En) : Fl := match k with
  | .int k => match L2.ixN xs.length k with
    | some m => if immAll xs = true ∧ imm d1 = true ∧ i < env.length ∧ i ≠ j then .nx ((env.set j (.ow (.lst (xs.set m d1)))).set i (.ow d2)) else .no
    | none => .no
  | _ => .no
def sSetPut (j i : Nat) (fk : En → R D) (f : En → R (List D)) (env : En) : Fl := onE (f env) env fun ds => match ds with
  | [d1, d2] => onList j env fun xs => onE (fk env) env fun k => setPut j i xs k d1 d2 env
  | _ => .no
section
variable {X : Cx} {W : WX} {pos px py sp pt pt2 : Pos} {x y : Str}
theorem ds_setPut {i j : Nat} {ie : Expr} {kt k2 : Nat} {es : List Expr} {fk : En → R D} {f : En → R (List D)} (h : DAF X W es f) (hk : DE X W ie fk) (hy : PE X (.Name y py) (tVar j)) (hN : X.N.Nodup) (hi : X.N[i]? = some x := by rfl) (hx : Loc X.env.scope x := by first | exact Or.inl rfl | exact Or.inr rfl) (hc : X.calm = true := by rfl)
    (hs : swapsWithSole [.Tuple [.Subscript (.Name y py) ie sp, .Name x px] kt pt] (.Tuple es k2 pt2) pos.line X.env = pure false := by rfl) (hw : swappedStores [.Tuple [.Subscript (.Name y py) ie sp, .Name x px] kt pt] (.Tuple es k2 pt2) X.env = pure none := by rfl)
    (h1 : (assignEach [.Tuple [.Subscript (.Name y py) ie sp, .Name x px] kt pt] X.env).map (·.2) = [assign (.Tuple [.Subscript (.Name y py) ie sp, .Name x px] kt pt) X.env] := by rfl)
    (hn : (assignEach [.Subscript (.Name y py) ie sp, .Name x px] X.env).length = 2 := by rfl) (hst : (assignEach [.Subscript (.Name y py) ie sp, .Name x px] X.env).findIdx? (·.1) = none := by rfl)
    (hs1 : (assignEach [.Subscript (.Name y py) ie sp, .Name x px] X.env).map (·.2) = assign (.Subscript (.Name y py) ie sp) X.env :: (assignEach [.Name x px] X.env).map (·.2) := by rfl) (hs2 : (assignEach [.Name x px] X.env).map (·.2) = assign (.Name x px) X.env :: (assignEach [] X.env).map (·.2) := by rfl)
    (ha : ∀ v, assign (.Subscript (.Name y py) ie sp) X.env v = (do
      let ov ← holding [v] (eval (.Name y py) X.env)
      let iv ← holding [v, ov] (eval ie X.env)
      standAt sp
      holding [v, ov, iv] (setItem ov iv v)
      release [v, ov, iv] []) := by intro _; rfl)
    (hf : X.fn x = true ∨ X.env.scope.names.lookup x = some .local := by first | exact .inl rfl | exact .inr rfl | assumption) :
    DS X W (.Assign [.Tuple [.Subscript (.Name y py) ie sp, .Name x px] kt pt] (.Tuple es k2 pt2) pos) (sSetPut j i fk f) :=
  ps_weak (ps_asg (pe_tup h) (pg_tup hc (pgs_cons (pg_sub hy hk set_list ha) (pgs_cons (pg_name hN hi hx hf) pgs_nil hs2) hs1) hn hst) hs hw h1) fun D σ H ⟨Z, env, E, g⟩ => by
  have E' := E
  obtain ⟨fps, E⟩ := E
  refine ⟨_, env, E.penv, (Go.out E' g).imp fun ds g vs H1 fp e1 hv nd hp => ?_⟩
  split at g
  · rename_i d1 d2
    have hvv := hv
    simp only [VAll] at hvv
    obtain ⟨v1, vr, f1, g1, rfl, ef1, q1, v2, vr2, f2, g2, rfl, ef2, q2, e3, e4⟩ := hvv
    subst e3
    subst e4
    rw [List.append_nil] at ef2
    subst ef2
    refine ⟨by show 2 ≤ sizeLine; exact line2, fun t ht => ?_⟩
    have n1 : Sm H1 (upd H1 t (.tup [v1, v2])) := Sm.new ht
    have E1 := (E.sm e1).sm n1
    have E1' : EO X.K X.mg Z env σ (upd H1 t (.tup [v1, v2])) := ⟨_, E1⟩
    refine ⟨t, [v1, v2], rfl, .inl (.inl upd_same), rfl, ?_⟩
    obtain ⟨xs, hj, g⟩ := Go.list g
    obtain ⟨a, ws, fl, s1, ef, hA, hws, ndw⟩ := E1.list hj
    refine ⟨v1, [v2], rfl, _, s1, _, env, E1.penv, (Go.out E1' g).imp fun k g u H2 fp2 e2 hk2 _ => ?_⟩
    have E2 := E1.sm e2
    unfold setPut at g
    split at g
    · rename_i kk
      split at g
      · rename_i m hm
        split at g
        · rename_i hcnd
          obtain ⟨c1, c2, c3, c4⟩ := hcnd
          have hws2 := hws.sm e2
          have hfl := VAll.imm _ hws2 c1
          subst hfl
          have hf1 := Val.imm _ q1 c2
          subst hf1
          rw [List.nil_append] at ef1
          subst ef1
          have kp : ∀ {fq}, a ∉ fq → Kp fq H2 (upd H2 a (.lst (ws.set m v1))) := fun hq => Kp.upd hq (fun xs z => by rw [e2 _ _ hA] at z; cases z) (fun o xs z => by rw [e2 _ _ hA] at z; cases z) (fun x z => by rw [e2 _ _ hA] at z; cases z)
          have E3 := E2.mut (d' := .lst (xs.set m d1)) (fp' := [a]) (o := .lst (ws.set m v1)) hj (by rw [ef]; exact List.mem_cons_self) trivial s1 (val_lst upd_same (VAll.kp _ (VAll.setAt hws2 ((q1.sm n1).sm e2)) (kp (by simp)))) (by simp) fun b hb => .inl (by rw [List.mem_singleton.mp hb, ef]; exact List.mem_cons_self)
          simp only [Val] at hk2
          -- the new value
          have new : ∀ b ∈ fp, Z b = none ∧ Mut (H1 b) ∧ ∀ j' d'', look env j' = some d'' → b ∉ fps j' := fun b hb => by
            refine ⟨E.keep.back (hp b hb).1, (hp b hb).2, fun j' d'' hl' z => ?_⟩
            obtain ⟨u', _, hu'⟩ := E.val j' d'' hl'
            exact hu'.gone z (hp b hb).1
          have na : ∀ b ∈ fp, b ≠ a := fun b hb z => (new b hb).2.2 j _ (look_ow hj) (by rw [ef, z]; exact List.mem_cons_self)
          have q3 := Val.kp _ ((q2.sm n1).sm e2) (kp fun z => na a z rfl)
          refine ⟨a, ws, kk, m, rfl, hk2.1, e2 _ _ hA, by rw [hws.length]; exact hm, v2, [], rfl, rfl, g _ _ ⟨_, E3.put (by simpa using c3) q3 nd (fun b hb => ⟨(new b hb).1, ?_⟩) fun j' d'' hne hl' b hb z => ?_⟩⟩
          · rw [upd_ne (na b hb)]; exact mut_sm (n1.trans e2) (new b hb).2.1
          · by_cases c : j' = j
            · subst c
              simp only [if_true, List.mem_singleton] at z
              exact na b hb z
            · simp only [c, if_false] at z
              rw [look_set (List.getElem?_eq_some_iff.mp hj).1, if_neg c] at hl'
              exact (new b hb).2.2 j' d'' hl' z
        · exact g.elim
      · exact g.elim
    · exact g.elim
  · exact g.elim
end
end DL
set_option Elab.async false
set_option linter.all false
set_option maxRecDepth 100000
set_option maxHeartbeats 2000000
namespace DL
open PySem PySem.Spec PyProof.Rows L2
/-! ### return (x, e, ..): own slots go out of the def within a tuple -/
abbrev PM := Nat ⊕ (En → R D)
def inls : List PM → List Nat
  | [] => []
  | .inl i :: r => i :: inls r
  | .inr _ :: r => inls r
def evM : List PM → En → R (List D)
  | [], _ => .ok []
  | .inl i :: r, env => match env[i]? with
    | some (.ow d) => evM r env >>= fun ds => .ok (d :: ds)
    | _ => .no
  | .inr f :: r, env => f env >>= fun d => evM r env >>= fun ds => .ok (d :: ds)
def sRetT (ps : List PM) (env : En) : Fl := if (inls ps).Nodup then onE (evM ps env >>= fun ds => R.of (if ds.length ≤ sizeLine then some (.tup ds) else none)) env fun d => .rt d else .no
section
variable {X : Cx} {W : WX} {pos : Pos}
def tPM (K : PySem.W.Frag) (mg : Str → Option Value) (W : WX) (ps : List PM) : TA := fun σ H Q => ∃ Z env fps, ER K mg Z env σ H fps ∧ (inls ps).Nodup ∧ Out mg W σ H (evM ps env) fun ds => ∀ vs H' fp, Sm H H' → VAll K mg H' ds vs fp → fp.Nodup → (∀ a ∈ fp, Mut (H' a) ∧ (H a = none ∨ ∃ i ∈ inls ps, (∃ d, env[i]? = some (.ow d)) ∧ a ∈ fps i)) → Q vs H'
theorem pm_nil : PA X [] (tPM X.K X.mg W []) := pa_weak pa_nil fun σ H Q ⟨Z, env, fps, E, n, q⟩ => q [] H [] (Sm.refl H) VAll.nil List.nodup_nil nf
theorem mut_some {H : Hp} {a : Addr} (m : Mut (H a)) : H a ≠ none := fun q => by rw [q] at m; exact m
theorem pm_own {x : Str} {px : Pos} {i : Nat} {es : List Expr} {ps : List PM} (h : PE X (.Name x px) (tVar i)) (t : PA X es (tPM X.K X.mg W ps)) (he : starEach (.Name x px :: es) X.env = (false, eval (.Name x px) X.env) :: starEach es X.env := by rfl) : PA X (.Name x px :: es) (tPM X.K X.mg W (.inl i :: ps)) :=
  pa_weak (pa_cons h t he) fun σ H Q ⟨Z, env, fps, E, n, q⟩ => by
    unfold evM at q
    cases hi : env[i]? with
    | none => rw [hi] at q; exact q.elim
    | some s =>
      rw [hi] at q
      cases s with
      | ow d =>
        obtain ⟨v, h1, h2⟩ := E.val i d (look_ow hi)
        obtain ⟨n1, n2, n3⟩ := E.own i d hi
        have nn := List.nodup_cons.mp n
        refine ⟨v, h1, Z, env, fps, E, nn.2, q.bind.imp fun ds q vs H2 fq e hvs hn hq => ?_⟩
        refine q (v :: vs) H2 (fps i ++ fq) e (.cons (h2.sm e) hvs) (List.nodup_append.mpr ⟨n1, hn, fun a ha b hb z => ?_⟩) fun a ha => ?_
        · subst z
          rcases (hq a hb).2 with w | ⟨j, hj, ⟨d', hd'⟩, w⟩
          · exact mut_some (n2 a ha).2 w
          · exact n3 j d' (fun z => nn.1 (z ▸ hj)) (look_ow hd') a ha w
        · rcases List.mem_append.mp ha with z | z
          · exact ⟨mut_sm e (n2 a z).2, .inr ⟨i, List.mem_cons_self, ⟨d, hi⟩, z⟩⟩
          · refine ⟨(hq a z).1, (hq a z).2.imp id fun ⟨j, hj, w⟩ => ⟨j, List.mem_cons_of_mem _ hj, w⟩⟩
      | _ => exact q.elim
theorem pm_new {e : Expr} {f : En → R D} {es : List Expr} {ps : List PM} (h : DF X W e f) (t : PA X es (tPM X.K X.mg W ps)) (he : starEach (e :: es) X.env = (false, eval e X.env) :: starEach es X.env := by rfl) : PA X (e :: es) (tPM X.K X.mg W (.inr f :: ps)) :=
  pa_weak (pa_cons h t he) fun σ H Q ⟨Z, env, fps, E, n, q⟩ => by
    unfold evM at q
    refine ⟨_, env, E.penv, q.bind.imp fun d q v H1 fp e hv hn hp => ⟨Z, env, fps, E.sm e, n, (q.sm e).bind.imp fun ds q vs H2 fq e2 hvs hn2 hq => ?_⟩⟩
    refine q (v :: vs) H2 (fp ++ fq) (e.trans e2) (.cons (hv.sm e2) hvs) (List.nodup_append.mpr ⟨hn, hn2, fun a ha b hb z => ?_⟩) fun a ha => ?_
    · subst z
      rcases (hq a hb).2 with w | ⟨j, hj, ⟨d', hd'⟩, w⟩
      · exact hv.gone ha w
      · exact mut_some ((E.own j d' hd').2.1 a w).2 (hp a ha).1
    · rcases List.mem_append.mp ha with z | z
      · exact ⟨mut_sm e2 (hp a z).2, .inl (hp a z).1⟩
      · exact ⟨(hq a z).1, (hq a z).2.imp (fun w => e.back w) id⟩
theorem ds_retT {es : List Expr} {ps : List PM} {p1} {p2 : Pos} (h : PA X es (tPM X.K X.mg W ps)) : DS X W (.Return (some (.Tuple es p1 p2)) pos) (sRetT ps) := ps_weak (ps_ret (pe_tup h)) fun D σ H ⟨Z, env, E, g⟩ => by
  have E' := E
  obtain ⟨fps, E⟩ := E
  unfold sRetT at g
  split at g
  · rename_i hn
    refine ⟨Z, env, fps, E, hn, ?_⟩
    refine (Go.out E' g).bind.imp fun ds q vs H1 fp e hv hn hp => ?_
    obtain ⟨d, ed, q⟩ := Out.of q
    split at ed
    · rename_i hz
      cases ed
      refine ⟨by rw [hv.length]; exact hz, fun p hpn => q _ _ fp ((E.keep.trans e).trans (Sm.new hpn)) (val_tup upd_same (hv.sm (Sm.new hpn))) hn fun a ha => ⟨?_, mut_sm (Sm.new hpn) (hp a ha).1⟩⟩
      rcases (hp a ha).2 with w | ⟨j, _, ⟨d', hd'⟩, w⟩
      · exact E.keep.back w
      · exact ((E.own j d' hd').2.1 a w).1
    · cases ed
  · exact g.elim
end
end DL
set_option Elab.async false
set_option linter.all false
set_option maxRecDepth 100000
set_option maxHeartbeats 2000000
namespace DL
open PySem PySem.Spec PyProof.Rows L2
/-! ### xs.index(y), xs a list of whole numbers -/
def findI (ns : List Int) (k : Int) : Option Nat := match ns with
  | [] => none
  | n :: r => if n = k then some 0 else (findI r k).map (· + 1)
theorem findI_at : ∀ {ns : List Int} {k : Int} {j : Nat}, findI ns k = some j → ns[j]? = some k ∧ ∀ m z, m < j → ns[m]? = some z → z ≠ k
  | [], _, _, h => by cases h
  | n :: r, k, j, h => by
    unfold findI at h
    by_cases c : n = k
    · rw [if_pos c] at h
      cases h
      exact ⟨by rw [c]; rfl, fun m z hm => absurd hm (by omega)⟩
    · rw [if_neg c, Option.map_eq_some_iff] at h
      obtain ⟨i, hi, rfl⟩ := h
      obtain ⟨h1, h2⟩ := findI_at hi
      refine ⟨h1, fun m z hm hz => ?_⟩
      cases m with
      | zero => cases hz; exact c
      | succ m => exact h2 m z (by omega) hz
def indexD : D → D → Option D
  | .lst xs, .int k => (intsD xs).bind fun ns => (findI ns k).map fun (j : Nat) => .int (j : Int)
  | _, _ => none
def eIndex (f g : En → R D) (env : En) : R D := f env >>= fun c => R.of (match c with | .lst xs => some xs | _ => none) >>= fun xs => g env >>= fun d => R.of (indexD (.lst xs) d)
section
variable {X : Cx} {W : WX} {o e : Expr} {f g : En → R D} {apos pos : Pos}
theorem all_flat (ns : List Int) : (ns.map V.int).all flatV = true := by rw [List.all_eq_true]; intro v hv; obtain ⟨i, _, rfl⟩ := List.mem_map.mp hv; rfl
theorem de_index (ho : DE X W o f) (he : DE X W e g) (hs : starEach [e] X.env = (false, eval e X.env) :: starEach [] X.env := by rfl) (hbase : attributeBase o "index" X.env (eval o X.env) = eval o X.env := by rfl)
    (hfew : ((backTo pos (starEach [e] X.env)).all (fun x => !x.1) && (backToKw pos (keywordEach [] X.env)).all (fun x => x.1.isSome)
      && decide ([e].length + ([] : List Keyword).length + (if ([] : List Keyword).isEmpty then 0 else 1) < 30)) = true := by rfl) (hline : (apos.endLine == pos.line) = true := by rfl) :
    DE X W (.Call (.Attribute o "index" apos) [e] [] pos) (eIndex f g) := pe_weak (pe_bm PySem.F.plainAttrs_list PySem.F.slot_list_index PySem.F.type_list_index mt_index ho (pa_cons (es := []) he pa_nil hs) hbase hfew hline hs rfl) fun σ H Q h => by
  obtain ⟨S, env, P, q⟩ := h
  refine stE P q fun d v H1 fp e1 hv hp q => ?_
  obtain ⟨xs, ex, q⟩ := Out.of q.bind
  split at ex
  · rename_i ys
    cases ex
    have hv0 := hv
    simp only [Val] at hv
    obtain ⟨a, vs, f2, rfl, h1, h2, h3⟩ := hv
    refine ⟨.inl ⟨rfl, _, SqL.of h2⟩, stE (P.sm e1) q fun d2 v2 H2 fp2 e2 hv2 hp2 q => ?_⟩
    obtain ⟨r, er, q⟩ := Out.of q
    unfold indexD at er
    split at er
    · rename_i k heq
      cases heq
      rw [Option.bind_eq_some_iff] at er
      obtain ⟨ns, e3, er⟩ := er
      rw [Option.map_eq_some_iff] at er
      obtain ⟨j, e4, rfl⟩ := er
      obtain ⟨g1, g2⟩ := findI_at e4
      have hvs := VAll.intsD h3 e3
      simp only [Val] at hv2
      obtain ⟨rfl, -⟩ := hv2
      subst hvs
      refine ⟨a, ns.map V.int, .int k, j, .int k, rfl, rfl, SqL.of (e2 _ _ h2), rfl, all_flat ns, by rw [List.getElem?_map, g1]; rfl, by simp [eqV], fun m z hm hz => ?_, q _ H2 [] (e1.trans e2) val_int (by simp)⟩
      rw [List.getElem?_map, Option.map_eq_some_iff] at hz
      obtain ⟨w, hw, rfl⟩ := hz
      simpa [eqV] using g2 m w hm hw
    · cases er
  · cases ex
end
end DL
set_option Elab.async false
set_option linter.all false
set_option maxRecDepth 100000
set_option maxHeartbeats 2000000
namespace DL
open PySem PySem.Spec PyProof.Rows L2
/-! ### x.d.update(y): dicts with tuples for keys -/
def putAll {κ : Type} [DecidableEq κ] (kvs more : List (κ × V)) : List (κ × V) := more.foldl (fun m p => putK m p.1 p.2) kvs
theorem putAll_len {κ : Type} [DecidableEq κ] : ∀ (more kvs : List (κ × V)), (putAll kvs more).length ≤ kvs.length + more.length
  | [], kvs => Nat.le_refl _
  | p :: more, kvs => by
    have := putAll_len more (putK kvs p.1 p.2)
    have := length_putK kvs p.1 p.2
    show (putAll (putK kvs p.1 p.2) more).length ≤ _
    rw [List.length_cons]; omega
theorem KT.putAll {H : Hp} : ∀ {more : List (List Key × V)} {ys : List (List Key × Addr × Value)} {kvs : List (List Key × V)} {xs : List (List Key × Addr × Value)}, KT H kvs xs → KT H more ys → KT H (putAll kvs more) (storedAllH xs ys) := by
  intro more ys kvs xs r r2
  induction r2 generalizing kvs xs with
  | nil => exact r
  | @cons p q ps qs hq t ih =>
    have e : KT H (putK kvs p.1 p.2) (storedH xs q.1 q.2.1 q.2.2) := by
      have e := r.put p.1 hq.2.1 hq.2.2
      rw [hq.1] at e ⊢; exact e
    exact ih e
def rUpdT : V → List V → Hp → VK → Prop := fun x xs H Q => ∃ (a b : Addr) (kvs more : List (List Key × V)), x = .ref a ∧ xs = [.ref b] ∧ a ≠ b ∧ H a = some (.dT kvs) ∧ Rd H b (.dT more) ∧ kvs ≠ [] ∧ kvs.length + more.length ≤ 1000000 ∧ Q .non (upd H a (.dT (putAll kvs more)))
section
variable {X : Cx}
theorem mt_updT (hu : X.A.units + 1 < cLine) : MtR X "dict.update" rUpdT := by
  intro pins s σ H x xs v us Q I rx rxs h
  obtain ⟨a, b, kvs, more, rfl, rfl, hab, ha, hb, hne, hsz, q⟩ := h
  cases rx
  obtain ⟨u, rfl, ru⟩ := rxs.one
  cases ru
  obtain ⟨z1, y1, m1, r1, d1⟩ := dt_of I.hok ha
  obtain ⟨z2, y2, m2, r2, d2⟩ := dt_rd I.hok hb
  have l1 : kvs.length = m1.length := Paired.length r1
  have l2 : more.length = m2.length := Paired.length r2
  have hs := sizeLine_eq
  refine call_update_dictH (tupleKind_room_in1 hu) hab y2 d1 d2 (.inl fun z => hne (List.eq_nil_of_length_eq_zero (by rw [l1, z]; rfl))) (by omega) fun h' d1' d2' same => ?_
  obtain ⟨o, es, ep, hq, h2, h3, h4, _, h5⟩ := d1'
  refine ⟨.non, _, d_write (ob := .dT (putAll kvs more)) (t' := s.toks) I (by rw [ha]; exact True.intro) same ⟨o, hq⟩ ⟨?_, y1, _, (KT.putAll r1 r2).keeps fun c ys ec => ?_, o, es, ep, hq, h2, h3, h4, h5⟩, rfl, q⟩
  · have := putAll_len more kvs; omega
  · rw [upd_ne (ne_of ec ha (fun z => nomatch z))]
    exact ec
end
def updL : List (List Key) → List D → List (List Key) → List D → Option D
  | ks, xs, [], [] => some (.dt ks xs)
  | ks, xs, k :: ks2, d :: xs2 => (putD .dt ks xs k d).bind fun c => match c with
    | .dt ks1 xs1 => updL ks1 xs1 ks2 xs2
    | _ => none
  | _, _, _, _ => none
theorem upd_dict {K : PySem.W.Frag} {mg : Str → Option Value} {H : Hp} : ∀ {more kvs : List (List Key × V)} {xs xs2 : List D} {g : List Addr} {c' : D}, updL (kvs.map (·.1)) xs (more.map (·.1)) xs2 = some c' → VAll K mg H xs (kvs.map (·.2)) g → VAll K mg H xs2 (more.map (·.2)) [] →
    ∃ ds' g', c' = .dt ((putAll kvs more).map (·.1)) ds' ∧ VAll K mg H ds' ((putAll kvs more).map (·.2)) g' ∧ g'.Sublist g
  | [], kvs, xs, xs2, g, c', h, hv, h2 => by
    cases xs2 with
    | nil => cases h; exact ⟨xs, g, rfl, hv, List.Sublist.refl _⟩
    | cons d r => cases h
  | p :: more, kvs, xs, xs2, g, c', h, hv, h2 => by
    cases xs2 with
    | nil => cases h
    | cons d r =>
      obtain ⟨c, hc, h⟩ := Option.bind_eq_some_iff.mp h
      simp only [List.map_cons, VAll] at h2
      obtain ⟨y, vr, f1, g1, e1, e2, w1, w2⟩ := h2
      injection e1 with e1a e1b
      have e2' := List.append_eq_nil_iff.mp e2.symm
      obtain ⟨ef, eg⟩ := e2'
      subst ef eg
      subst e1b
      rw [← e1a] at w1
      obtain ⟨hl, ks', ds', g', ec, hk2, hv5, hs5⟩ := put_dict hc hv w1
      subst ec
      simp only at h
      subst hk2
      obtain ⟨ds2, g2, q1, q2, q3⟩ := upd_dict h hv5 w2
      refine ⟨ds2, g2, q1, q2, ?_⟩
      rcases hs5 with s | s
      · exact q3.trans s
      · rw [s, List.append_nil] at q3; exact q3
def updD (c d : D) : Option D := match c, d with
  | .dt ks xs, .dt ks2 xs2 => if ks.isEmpty = false ∧ ks.length + ks2.length ≤ 1000000 ∧ immAll xs2 = true then updL ks xs ks2 xs2 else none
  | _, _ => none
def sUpdP (i : Nat) (p : PX) (j : Nat) (env : En) : Fl := onP (resolve i p env) env fun st c => match env[j]? with
  | some (.ow d) => if i = j then .no else match updD c d with
    | some c' => putBack i st c' env
    | none => .no
  | _ => .no
section
variable {X : Cx} {W : WX} {pos cpos apos px : Pos} {i j : Nat} {o : Expr} {p : PX} {y : Str}
theorem ds_updP (hu : X.A.units + 1 < cLine) (hx : DPx X W i o p) (h : PE X (.Name y px) (tVar j)) (hbase : attributeBase o "update" X.env (eval o X.env) = eval o X.env := by rfl)
    (hfew : ((backTo cpos (starEach [.Name y px] X.env)).all (fun x => !x.1) && (backToKw cpos (keywordEach [] X.env)).all (fun x => x.1.isSome)
      && decide (([.Name y px] : List Expr).length + ([] : List Keyword).length + (if ([] : List Keyword).isEmpty then 0 else 1) < 30)) = true := by rfl)
    (hline : (apos.endLine == cpos.line) = true := by rfl) (hs1 : starEach [.Name y px] X.env = (false, eval (.Name y px) X.env) :: starEach [] X.env := by rfl) (hplain : (backTo cpos (starEach [] X.env)).any (·.1) = false := by rfl)
    (hs : swapsWith (.Call (.Attribute o "update" apos) [.Name y px] [] cpos) none pos.line X.env = pure false := by rfl) : DS X W (.Expr (.Call (.Attribute o "update" apos) [.Name y px] [] cpos) pos) (sUpdP i p j) :=
  ps_weak (ps_expr (pe_bm PySem.F.plainAttrs_dict PySem.F.slot_dict_update PySem.F.type_dict_update (mt_updT hu) hx (pa_cons h pa_nil hs1) hbase hfew hline hs1 hplain) hs) fun D σ H ⟨Z, env, E, g⟩ => by
  have E' := E
  obtain ⟨fps, E⟩ := E
  refine ⟨Z, env, fps, E, (Go.atP E' g).imp fun w ⟨g, r, hi, hg⟩ H1 v v0 fv e1 s0 hat hv => ?_⟩
  obtain ⟨st, c⟩ := w
  split at g
  · rename_i d hj
    split at g
    · exact g.elim
    · rename_i hij
      split at g
      · rename_i c' hc
        cases c with
        | dt ks xs =>
          cases d with
          | dt ks2 xs2 =>
            simp only [updD] at hc
            split at hc
            · rename_i hcond
              obtain ⟨hne, hsz, him⟩ := hcond
              have E1 := E.sm e1
              obtain ⟨v0', v', f', s0', hat', hv', nd', mu', sub', up⟩ := E1.mutP hi hg
              rw [s0] at s0'; cases s0'
              have := hat.one hat'
              subst this
              simp only [Val] at hv'
              obtain ⟨a, kvs, fl, ev, ef, hA, hks, hvs⟩ := hv'
              subst ev ef hks
              have hA' := rd_mut hA (mu' a List.mem_cons_self)
              obtain ⟨vj, sj, hvj⟩ := E1.val j _ (look_ow hj)
              have hvj0 := hvj
              simp only [Val] at hvj
              obtain ⟨b, more, fl2, ev2, ef2, hB, hks2, hvs2⟩ := hvj
              subst ev2 hks2
              have hz := VAll.imm _ hvs2 him
              subst hz
              have hab : a ≠ b := fun z => by
                subst z
                exact (E1.own i _ hi).2.2 j _ (Ne.symm hij) (look_ow hj) a (sub' a List.mem_cons_self) (by rw [ef2]; exact List.mem_cons_self)
              have hne' : kvs ≠ [] := fun z => by subst z; cases hne
              refine ⟨.inr (.inr (.inl ⟨rfl, .inr ⟨_, hA'⟩⟩)), _, sj, a, b, kvs, more, rfl, rfl, hab, hA', hB, hne', by simpa using hsz, ?_⟩
              have nfl := List.nodup_cons.mp nd'
              have kp : ∀ {fq o}, a ∉ fq → Kp fq H1 (upd H1 a o) := fun hq => Kp.upd hq (fun xs z => by rw [hA'] at z; cases z) (fun o xs z => by rw [hA'] at z; cases z) (fun o z => by rw [hA'] at z; cases z)
              obtain ⟨ds', g', q1, q2, q3⟩ := upd_dict hc (VAll.kp (H' := upd H1 a (.dT (putAll kvs more))) _ hvs (kp nfl.1)) (VAll.kp (H' := upd H1 a (.dT (putAll kvs more))) _ hvs2 (kp (by simp)))
              subst q1
              unfold putBack at g
              rw [hi] at g
              simp only at g
              obtain ⟨fps', E3⟩ := up (e' := .dt ((putAll kvs more).map (·.1)) ds') (f' := a :: g') rfl List.mem_cons_self (o := .dT (putAll kvs more)) trivial
                (by simp only [Val]; exact ⟨a, _, g', rfl, rfl, .inl upd_same, rfl, q2⟩)
                (List.nodup_cons.mpr ⟨fun z => nfl.1 (q3.subset z), q3.nodup nfl.2⟩) fun b hb => .inl ((List.mem_cons.mp hb).elim (fun z => z ▸ List.mem_cons_self) fun z => List.mem_cons_of_mem _ (q3.subset z))
              exact g σ _ ⟨_, E3⟩
            · cases hc
          | _ => simp only [updD, reduceCtorEq] at hc
        | _ => simp only [updD, reduceCtorEq] at hc
      · exact g.elim
  · exact g.elim
end
end DL
set_option Elab.async false
set_option linter.all false
set_option maxRecDepth 100000
set_option maxHeartbeats 2000000
namespace TL
open PySem PySem.Spec PyProof.Rows L2 DL
/-! ## what a def's function over D is, with types -/
variable {α β γ δ σ τ ρ σ1 : Type}
/-! ### how values of types are written in D -/
def eN (_ : Unit) : D := .non
def eD (d : D) : D := d
def eL (e : α → D) (xs : List α) : D := .lst (xs.map e)
def eT (e : α → D) (xs : List α) : D := .tup (xs.map e)
def eZ (e : α → D) (xs : List α) : D := .fz (xs.map e)
def eLd (xs : List D) : D := .lst xs
def eTd (xs : List D) : D := .tup xs
def e0 (_ : Unit) : D := .tup []
def e1 (e : α → D) (x : α) : D := .tup [e x]
def e2 (e : α → D) (f : β → D) (x : α × β) : D := .tup [e x.1, f x.2]
def e3 (e : α → D) (f : β → D) (g : γ → D) (x : α × β × γ) : D := .tup [e x.1, f x.2.1, g x.2.2]
def e4 (e : α → D) (f : β → D) (g : γ → D) (h : δ → D) (x : α × β × γ × δ) : D := .tup [e x.1, f x.2.1, g x.2.2.1, h x.2.2.2]
def eO (e : α → D) : Option α → D
  | none => .non
  | some x => e x
/-! ### results -/
def RG (e : α → D) (r : R D) : R α → Prop
  | .ok x => r = .ok (e x)
  | .ex c => r = .ex c
  | .no => True
def opt : R α → Option α
  | .ok x => some x
  | _ => none
@[simp] theorem opt_ok (x : α) : opt (.ok x) = some x := nr rfl
theorem opt_some {t : R α} {v : α} (h : opt t = some v) : t = .ok v := by
  cases t <;> simp [opt] at h
  rw [h]
theorem RG.opt {e : α → D} {r : R D} {t : R α} {v : α} (h : RG e r t) (q : TL.opt t = some v) : r = .ok (e v) := by
  rw [opt_some q] at h; exact h
theorem RG.of {e : α → D} {r : R D} {t : R α} {v : α} (h : RG e r t) (q : t = .ok v) : r = .ok (e v) := by
  rw [q] at h; exact h
/-- what a block of statements leads to: σ behind it, τ at break and continue, ρ returned -/
inductive TF (τ σ ρ : Type) where
  | nx (s : σ) | rt (r : ρ) | bk (s : τ) | ct (s : τ) | ex (c : Str) | no
def RS (pl : En → En) (ml : τ → En) (pm : En → En) (mk : σ → En) (er : ρ → D) (r : Fl) : TF τ σ ρ → Prop
  | .nx s => ∃ e, r = .nx e ∧ pm e = mk s
  | .rt x => r = .rt (er x)
  | .bk s => ∃ e, r = .bk e ∧ pl e = ml s
  | .ct s => ∃ e, r = .ct e ∧ pl e = ml s
  | .ex c => ∃ e, r = .ex c e
  | .no => True
/-! ### words of typed blocks -/
def tlet (x : α) (k : α → β) : β := k x
@[simp] theorem tlet_eq (x : α) (k : α → β) : tlet x k = k x := nr rfl
def obind (o : Option α) (k : α → TF τ σ ρ) : TF τ σ ρ := match o with
  | some x => k x
  | none => .no
@[simp] theorem obind_some (x : α) (k : α → TF τ σ ρ) : obind (some x) k = k x := nr rfl
def rbind (o : R α) (k : α → TF τ σ ρ) : TF τ σ ρ := match o with
  | .ok x => k x
  | .ex c => .ex c
  | .no => .no
@[simp] theorem rbind_ok (x : α) (k : α → TF τ σ ρ) : rbind (.ok x) k = k x := nr rfl
@[simp] theorem rbind_ex (c : Str) (k : α → TF τ σ ρ) : rbind (.ex c) k = .ex c := nr rfl
def rret (o : R ρ) : TF τ σ ρ := match o with
  | .ok x => .rt x
  | .ex c => .ex c
  | .no => .no
@[simp] theorem rret_ok (x : ρ) : (rret (.ok x) : TF τ σ ρ) = .rt x := nr rfl
@[simp] theorem rret_ex (c : Str) : (rret (.ex c) : TF τ σ ρ) = .ex c := nr rfl
namespace TF
def bind (t : TF τ σ1 ρ) (k : σ1 → TF τ σ ρ) : TF τ σ ρ := match t with
  | .nx s => k s
  | .rt r => .rt r
  | .bk s => .bk s
  | .ct s => .ct s
  | .ex c => .ex c
  | .no => .no
@[simp] theorem bind_nx (s : σ1) (k : σ1 → TF τ σ ρ) : bind (.nx s) k = k s := nr rfl
@[simp] theorem bind_rt (s : ρ) (k : σ1 → TF τ σ ρ) : bind (.rt s) k = .rt s := nr rfl
@[simp] theorem bind_bk (s : τ) (k : σ1 → TF τ σ ρ) : bind (.bk s) k = .bk s := nr rfl
@[simp] theorem bind_ct (s : τ) (k : σ1 → TF τ σ ρ) : bind (.ct s) k = .ct s := nr rfl
@[simp] theorem bind_ex (s : Str) (k : σ1 → TF τ σ ρ) : bind (.ex s) k = .ex s := nr rfl
/-- a block that does not go on -/
def up (t : TF τ Empty ρ) : TF τ σ ρ := match t with
  | .nx s => nomatch s
  | .rt r => .rt r
  | .bk s => .bk s
  | .ct s => .ct s
  | .ex c => .ex c
  | .no => .no
@[simp] theorem up_rt (s : ρ) : (up (.rt s : TF τ Empty ρ) : TF τ σ ρ) = .rt s := nr rfl
@[simp] theorem up_bk (s : τ) : (up (.bk s : TF τ Empty ρ) : TF τ σ ρ) = .bk s := nr rfl
@[simp] theorem up_ct (s : τ) : (up (.ct s : TF τ Empty ρ) : TF τ σ ρ) = .ct s := nr rfl
@[simp] theorem up_ex (s : Str) : (up (.ex s : TF τ Empty ρ) : TF τ σ ρ) = .ex s := nr rfl
/-- a def's answer; nv: None -/
def run (nv : ρ) (t : TF Unit Unit ρ) : R ρ := match t with
  | .nx _ => .ok nv
  | .rt r => .ok r
  | .ex c => .ex c
  | _ => .no
@[simp] theorem run_nx (nv : ρ) (s : Unit) : run nv (.nx s) = .ok nv := nr rfl
@[simp] theorem run_rt (nv : ρ) (s : ρ) : run nv (.rt s) = .ok s := nr rfl
@[simp] theorem run_ex (nv : ρ) (s : Str) : run nv (.ex s) = .ex s := nr rfl
/-- a def's answer that always returns -/
def run' (t : TF Unit Empty ρ) : R ρ := match t with
  | .rt r => .ok r
  | .ex c => .ex c
  | _ => .no
@[simp] theorem run'_rt (s : ρ) : run' (.rt s) = .ok s := nr rfl
@[simp] theorem run'_ex (s : Str) : run' (.ex s : TF Unit Empty ρ) = .ex s := nr rfl
end TF
def tfor : List β → σ → (σ → β → TF σ σ ρ) → TF τ σ ρ
  | [], s, _ => .nx s
  | x :: xs, s, b => match b s x with
    | .nx s' => tfor xs s' b
    | .ct s' => tfor xs s' b
    | .bk s' => .nx s'
    | .rt r => .rt r
    | .ex c => .ex c
    | .no => .no
@[simp] theorem tfor_nil (s : σ) (b : σ → β → TF σ σ ρ) : (tfor [] s b : TF τ σ ρ) = .nx s := nr rfl
/-- one step: for going on behind a turn -/
def tnext (r : TF σ σ ρ) (k : σ → TF τ σ ρ) : TF τ σ ρ := match r with
  | .nx s' => k s'
  | .ct s' => k s'
  | .bk s' => .nx s'
  | .rt r => .rt r
  | .ex c => .ex c
  | .no => .no
theorem tfor_cons (x : β) (xs : List β) (s : σ) (b : σ → β → TF σ σ ρ) : (tfor (x :: xs) s b : TF τ σ ρ) = tnext (b s x) fun s' => tfor xs s' b := by
  conv => lhs; unfold tfor
  cases b s x <;> rfl
@[simp] theorem tnext_nx (s : σ) (k : σ → TF τ σ ρ) : tnext (.nx s) k = k s := nr rfl
@[simp] theorem tnext_ct (s : σ) (k : σ → TF τ σ ρ) : tnext (.ct s) k = k s := nr rfl
@[simp] theorem tnext_bk (s : σ) (k : σ → TF τ σ ρ) : tnext (.bk s) k = .nx s := nr rfl
@[simp] theorem tnext_rt (s : ρ) (k : σ → TF τ σ ρ) : tnext (.rt s) k = .rt s := nr rfl
@[simp] theorem tnext_ex (s : Str) (k : σ → TF τ σ ρ) : tnext (.ex s) k = .ex s := nr rfl
def twhile : Nat → σ → (σ → Option Bool) → (σ → TF σ σ ρ) → TF τ σ ρ
  | 0, _, _, _ => .no
  | n + 1, s, c, b => match c s with
    | some true => match b s with
      | .nx s' => twhile n s' c b
      | .ct s' => twhile n s' c b
      | .bk s' => .nx s'
      | .rt r => .rt r
      | .ex c => .ex c
      | .no => .no
    | some false => .nx s
    | none => .no
/-! ### comprehensions -/
def tcmp : List β → (β → Option Bool) → (β → Option α) → Option (List α)
  | [], _, _ => some []
  | x :: xs, p, f => (p x).bind fun b => if b = true then (f x).bind fun y => (tcmp xs p f).bind fun ys => some (y :: ys) else tcmp xs p f
def tcomp (xs : List β) (p : β → Option Bool) (f : β → Option α) : Option (List α) := if xs.length ≤ sizeLine then tcmp xs p f else none
theorem tcmp_pure {xs : List β} {p : β → Option Bool} {f : β → Option α} (P : β → Bool) (F : β → α) (h : ∀ x ∈ xs, p x = some (P x)) (hf : ∀ x ∈ xs, P x = true → f x = some (F x)) : tcmp xs p f = some ((xs.filter P).map F) := by
  induction xs with
  | nil => rfl
  | cons x xs ih =>
    have i := ih (fun y hy => h y (List.mem_cons_of_mem _ hy)) (fun y hy => hf y (List.mem_cons_of_mem _ hy))
    simp only [tcmp, h x List.mem_cons_self, Option.bind_some]
    by_cases c : P x = true
    · rw [if_pos c, hf x List.mem_cons_self c, i]
      simp [List.filter_cons, c]
    · rw [if_neg c, i]
      simp [List.filter_cons, c]
theorem tcomp_pure {xs : List β} {p : β → Option Bool} {f : β → Option α} (P : β → Bool) (F : β → α) (hl : xs.length ≤ sizeLine) (h : ∀ x ∈ xs, p x = some (P x)) (hf : ∀ x ∈ xs, P x = true → f x = some (F x)) : tcomp xs p f = some ((xs.filter P).map F) := by
  unfold tcomp; rw [if_pos hl, tcmp_pure P F h hf]
theorem tcomp_all {xs : List β} {f : β → Option α} (F : β → α) (hl : xs.length ≤ sizeLine) (hf : ∀ x ∈ xs, f x = some (F x)) : tcomp xs (fun _ => some true) f = some (xs.map F) := by
  rw [tcomp_pure (fun _ => true) F hl (fun _ _ => rfl) (fun x hx _ => hf x hx)]
  congr 2
  exact List.filter_eq_self.mpr fun _ _ => rfl
/-! ### lists that are pushed to -/
def appO (xs : List α) (x : α) : Option (List α) := if xs.length < sizeLine then some (xs ++ [x]) else none
def extO (xs ys : List α) : Option (List α) := if xs.length + ys.length ≤ sizeLine then some (xs ++ ys) else none
/-- what leads on -/
theorem ob {o : Option α} {k : α → Option β} {w : β} (h : o.bind k = some w) : ∃ v, o = some v ∧ k v = some w := Option.bind_eq_some_iff.mp h
/-! ## expressions -/
section
variable {env : En} {f g h : En → R D} {t u : En → R Bool} {ga : En → R (List D)} {x y z d : D} {ds : List D} {i n : Nat} {a b c : Bool}
theorem p_c : eC d env = .ok d := nr rfl
theorem p_var (h : look env i = some d) : eVar i env = .ok d := by rw [eVar_eq, h]; rfl
theorem p_nil : eNil env = .ok [] := nr rfl
theorem p_cons (hf : f env = .ok d) (hg : ga env = .ok ds) : eCons f ga env = .ok (d :: ds) := by rw [eCons_eq, hf, R.bind_ok, hg]; rfl
theorem p_op {F : D → D → Option D} (q : F x y = some z) (hf : f env = .ok x) (hg : g env = .ok y) : eOp F f g env = .ok z := by rw [eOp_eq, hf, R.bind_ok, hg, R.bind_ok, q]; rfl
theorem p_call {F : List D → Option D} (q : F ds = some z) (hg : ga env = .ok ds) : eCall F ga env = .ok z := by rw [eCall_eq, hg, R.bind_ok, q]; rfl
theorem p_fn {F : List D → R D} (q : F ds = .ok z) (hg : ga env = .ok ds) (hn : ds.length = n := by rfl) : eCallF n F ga env = .ok z := by rw [eCallF_eq, hg, R.bind_ok, if_pos hn, q]
theorem rg_fn {e : α → D} {F : List D → R D} {t : R α} (q : RG e (F ds) t) (hg : ga env = .ok ds) (hn : ds.length = n := by rfl) : RG e (eCallF n F ga env) t := by rw [eCallF_eq, hg, R.bind_ok, if_pos hn]; exact q
theorem p_imm (q : imm d = true) (hf : f env = .ok d) : eImm f env = .ok d := by rw [eImm_eq, hf, R.bind_ok, if_pos q]; rfl
theorem p_top (q : immTop d = true) (hf : f env = .ok d) : eTop f env = .ok d := by rw [eTop_eq, hf, R.bind_ok, if_pos q]; rfl
theorem rg_imm {e : α → D} {t : R α} (q : ∀ v, imm (e v) = true) (hf : RG e (f env) t) : RG e (eImm f env) t := by
  cases t with
  | ok v => exact p_imm (q v) hf
  | ex c => show eImm f env = .ex c; rw [eImm_eq, show f env = .ex c from hf]; rfl
  | no => trivial
theorem p_lst (h : ga env = .ok ds) (hl : Nat.ble ds.length 1000 = true) : eLst ga env = .ok (.lst ds) := by
  rw [eLst_eq, h, R.bind_ok, if_pos (small_line (by have := Nat.le_of_ble_eq_true hl; omega))]; rfl
theorem p_tup (h : ga env = .ok ds) (hl : Nat.ble ds.length 1000 = true) : eTup ga env = .ok (.tup ds) := by
  rw [eTup_eq, h, R.bind_ok, if_pos (small_line (by have := Nat.le_of_ble_eq_true hl; omega))]; rfl
/-! tests -/
theorem q_b (hf : f env = .ok (.bl a)) : eB f env = .ok a := by rw [eB_eq, hf]; rfl
theorem q_tru (hf : f env = .ok d) (q : truB d = some a) : eTru f env = .ok a := by rw [eTru_eq, hf, R.bind_ok, q]; rfl
theorem q_not (ht : t env = .ok a) : eNotT t env = .ok (!a) := by rw [eNotT_eq, ht]; rfl
theorem q_and (ht : t env = .ok a) (hu : u env = .ok b) : eAndT t u env = .ok (a && b) := by
  rw [eAndT_eq, ht, R.bind_ok]; cases a
  · rfl
  · exact hu
theorem q_or (ht : t env = .ok a) (hu : u env = .ok b) : eOrT t u env = .ok (a || b) := by
  rw [eOrT_eq, ht, R.bind_ok]; cases a
  · exact hu
  · rfl
def andO (a : Bool) (b : Option Bool) : Option Bool := if a = true then b else some false
def orO (a : Bool) (b : Option Bool) : Option Bool := if a = true then some true else b
@[simp] theorem andO_some (a b : Bool) : andO a (some b) = some (a && b) := by cases a <;> rfl
@[simp] theorem orO_some (a b : Bool) : orO a (some b) = some (a || b) := by cases a <;> rfl
@[simp] theorem andO_false (b : Option Bool) : andO false b = some false := nr rfl
@[simp] theorem andO_true (b : Option Bool) : andO true b = b := nr rfl
@[simp] theorem orO_true (b : Option Bool) : orO true b = some true := nr rfl
@[simp] theorem orO_false (b : Option Bool) : orO false b = b := nr rfl
theorem q_andO {B : Option Bool} (hv : andO a B = some c) (ht : t env = .ok a) (hu : ∀ w, B = some w → u env = .ok w) : eAndT t u env = .ok c := by
  rw [eAndT_eq, ht, R.bind_ok]
  cases a with
  | false => cases hv; rfl
  | true => exact hu c hv
theorem q_orO {B : Option Bool} (hv : orO a B = some c) (ht : t env = .ok a) (hu : ∀ w, B = some w → u env = .ok w) : eOrT t u env = .ok c := by
  rw [eOrT_eq, ht, R.bind_ok]
  cases a with
  | true => cases hv; rfl
  | false => exact hu c hv
/-! and, or, not as values -/
theorem p_and (hf : f env = .ok (.bl a)) (hg : g env = .ok (.bl b)) : eAnd f g env = .ok (.bl (a && b)) := by
  rw [eAnd_eq, hf]; cases a
  · rfl
  · exact hg
theorem p_or (hf : f env = .ok (.bl a)) (hg : g env = .ok (.bl b)) : eOr f g env = .ok (.bl (a || b)) := by
  rw [eOr_eq, hf]; cases a
  · exact hg
  · rfl
theorem p_not (hf : f env = .ok (.bl a)) : eNot f env = .ok (.bl (!a)) := by rw [eNot_eq, hf]; rfl
theorem p_andO {B : Option Bool} (hv : andO a B = some c) (ht : f env = .ok (.bl a)) (hu : ∀ w, B = some w → g env = .ok (.bl w)) : eAnd f g env = .ok (.bl c) := by
  rw [eAnd_eq, ht]
  cases a with
  | false => cases hv; rfl
  | true => exact hu c hv
theorem p_orO {B : Option Bool} (hv : orO a B = some c) (ht : f env = .ok (.bl a)) (hu : ∀ w, B = some w → g env = .ok (.bl w)) : eOr f g env = .ok (.bl c) := by
  rw [eOr_eq, ht]
  cases a with
  | true => cases hv; rfl
  | false => exact hu c hv
theorem p_neg {k : Int} (hf : f env = .ok (.int k)) : eNeg f env = .ok (.int (-k)) := by rw [eNeg_eq, hf]; rfl
/-- e if c else e' -/
theorem p_if (ht : t env = .ok a) (hf : f env = .ok x) (hg : g env = .ok y) : eIf t f g env = .ok (if a = true then x else y) := by
  rw [eIf_eq, ht, R.bind_ok]; cases a
  · exact hg
  · exact hf
theorem p_ifE {e : α → D} {v w : α} (ht : t env = .ok a) (hf : f env = .ok (e v)) (hg : g env = .ok (e w)) : eIf t f g env = .ok (e (if a = true then v else w)) := by
  rw [eIf_eq, ht, R.bind_ok]; cases a
  · exact hg
  · exact hf
theorem p_ifO {e : α → D} {A B : Option α} {v : α} (hv : (if a = true then A else B) = some v) (ht : t env = .ok a) (hf : ∀ w, A = some w → f env = .ok (e w)) (hg : ∀ w, B = some w → g env = .ok (e w)) : eIf t f g env = .ok (e v) := by
  rw [eIf_eq, ht, R.bind_ok]; cases a
  · exact hg v hv
  · exact hf v hv
/-! chains -/
theorem p_ch {F G : D → D → Option D} (q1 : F x y = some (.bl a)) (q2 : G y z = some (.bl b)) (hf : f env = .ok x) (hg : g env = .ok y) (hh : h env = .ok z) : eCh F G f g h env = .ok (.bl (a && b)) := by
  rw [eCh_eq, hf, R.bind_ok, hg, R.bind_ok, q1]
  simp only [ofR_some, R.bind_ok, asB_bl]
  cases a with
  | false => rfl
  | true => rw [if_pos rfl, hh, R.bind_ok, q2]; rfl
/-! slices -/
theorem p_sl {p q : En → R (Option Int)} {lo hi : Option Int} (s : sliceD x lo hi = some z) (hf : f env = .ok x) (hp : p env = .ok lo) (hq : q env = .ok hi) : eSl f p q env = .ok z := by
  rw [eSl_eq, hf, R.bind_ok, hp, R.bind_ok, hq, R.bind_ok, s]; rfl
theorem p_none : eNone env = .ok none := nr rfl
theorem p_part {k : Int} (hf : f env = .ok (.int k)) : ePart f env = .ok (some k) := by rw [ePart_eq, hf]; rfl
theorem p_rev (s : revD x = some z) (hf : f env = .ok x) : eRev f env = .ok z := by rw [eRev_eq, hf, R.bind_ok, s]; rfl
/-! what is walked -/
theorem i_rng {F : List D → Option (List D)} {rs : List D} (q : F ds = some rs) (hg : ga env = .ok ds) : eRange F ga env = .ok rs := by rw [eRange_eq, hg, R.bind_ok, q]; rfl
theorem i_it {rs : List D} (q : iterD x = some rs) (hf : f env = .ok x) : eIter f env = .ok rs := by rw [eIter_eq, hf, R.bind_ok, q]; rfl
theorem map_eD (xs : List D) : xs.map eD = xs := by
  induction xs with
  | nil => rfl
  | cons x xs ih => rw [List.map_cons, ih]; rfl
theorem i_dyn {r : R (List D)} {xs : List D} (h : r = .ok xs) : r = .ok (xs.map eD) := by rw [map_eD]; exact h
/-! comprehensions -/
theorem p_comp {vs : List Nat} {T : Tg} {fi : En → R (List D)} {cc : En → R Bool} (eb : β → D) {e : α → D} {xs : List β} {p : β → Option Bool} {F : β → Option α} {ys : List α} (hv : tcomp xs p F = some ys) (hi : fi env = .ok (xs.map eb))
    (h : ∀ x w, p x = some w → ∃ e', put T (eb x) (wipeE env vs) = some e' ∧ cc e' = .ok w ∧ ∀ v, F x = some v → f e' = .ok (e v)) : eComp vs T fi cc f env = .ok (eL e ys) := by
  unfold tcomp at hv
  split at hv
  · rename_i hl
    have key : ∀ (xs : List β) (ys : List α), tcmp xs p F = some ys → cmp T cc f (wipeE env vs) (xs.map eb) = some (ys.map e) := by
      intro xs
      induction xs with
      | nil => intro ys h; cases h; rfl
      | cons x xs ih =>
        intro ys hy
        obtain ⟨w, hw, hy⟩ := ob hy
        obtain ⟨e', h1, h2, h3⟩ := h x w hw
        simp only [List.map_cons, cmp, h1, Option.bind_some, h2, sure]
        cases w with
        | true =>
          rw [if_pos rfl] at hy ⊢
          obtain ⟨v, hv, hy⟩ := ob hy
          obtain ⟨vs, hvs, hy⟩ := ob hy
          cases hy
          simp [h3 v hv, sure, ih vs hvs]
        | false =>
          rw [if_neg (by simp)] at hy ⊢
          exact ih ys hy
    unfold eComp
    rw [hi, R.bind_ok, List.length_map, if_pos hl, key xs ys hv]
    rfl
  · cases hv
/-! values seen otherwise -/
theorem p_co {r : R D} {d d' : D} (q : d = d') (h : r = .ok d) : r = .ok d' := by rw [← q]; exact h
theorem co_id {e : α → D} (x : α) : e x = e x := nr rfl
theorem co_D (e : α → D) (x : α) : e x = eD (e x) := nr rfl
theorem co_L {e : α → D} {e' : β → D} {c : α → β} (h : ∀ x, e x = e' (c x)) (xs : List α) : eL e xs = eL e' (xs.map c) := by
  simp only [eL, List.map_map]; congr 1; exact List.map_congr_left fun x _ => h x
theorem co_T {e : α → D} {e' : β → D} {c : α → β} (h : ∀ x, e x = e' (c x)) (xs : List α) : eT e xs = eT e' (xs.map c) := by
  simp only [eT, List.map_map]; congr 1; exact List.map_congr_left fun x _ => h x
theorem co_none {e : α → D} (u : Unit) : eN u = eO e none := nr rfl
theorem co_some {e : α → D} {e' : β → D} {c : α → β} (h : ∀ x, e x = e' (c x)) (x : α) : e x = eO e' (some (c x)) := h x
theorem co_O {e : α → D} {e' : β → D} {c : α → β} (h : ∀ x, e x = e' (c x)) (x : Option α) : eO e x = eO e' (x.map c) := by
  cases x with
  | none => rfl
  | some x => exact h x
theorem co_0T {e : α → D} (x : Unit) : e0 x = eT e [] := nr rfl
theorem co_1T {e : α → D} {b : β → D} {c : α → β} (h : ∀ x, e x = b (c x)) (x : α) : e1 e x = eT b [c x] := by simp [e1, eT, h]
theorem co_2T {e : α → D} {f : γ → D} {b : β → D} {c : α → β} {c2 : γ → β} (h : ∀ x, e x = b (c x)) (h2 : ∀ x, f x = b (c2 x)) (x : α × γ) : e2 e f x = eT b [c x.1, c2 x.2] := by simp [e2, eT, h, h2]
theorem co_3T {ε : Type} {e : α → D} {f : γ → D} {g : ε → D} {b : β → D} {c : α → β} {c2 : γ → β} {c3 : ε → β} (h : ∀ x, e x = b (c x)) (h2 : ∀ x, f x = b (c2 x)) (h3 : ∀ x, g x = b (c3 x)) (x : α × γ × ε) : e3 e f g x = eT b [c x.1, c2 x.2.1, c3 x.2.2] := by simp [e3, eT, h, h2, h3]
theorem co_4T {ε ζ : Type} {e : α → D} {f : γ → D} {g : ε → D} {k : ζ → D} {b : β → D} {c : α → β} {c2 : γ → β} {c3 : ε → β} {c4 : ζ → β} (h : ∀ x, e x = b (c x)) (h2 : ∀ x, f x = b (c2 x)) (h3 : ∀ x, g x = b (c3 x)) (h4 : ∀ x, k x = b (c4 x)) (x : α × γ × ε × ζ) : e4 e f g k x = eT b [c x.1, c2 x.2.1, c3 x.2.2.1, c4 x.2.2.2] := by simp [e4, eT, h, h2, h3, h4]
theorem co_1 {α' : Type} {e : α → D} {e' : α' → D} {c : α → α'} (h : ∀ x, e x = e' (c x)) (x : α) : e1 e x = e1 e' (c x) := by simp [e1, h]
theorem co_2 {α' β' : Type} {e : α → D} {e' : α' → D} {f : β → D} {f' : β' → D} {c : α → α'} {c2 : β → β'} (h : ∀ x, e x = e' (c x)) (h2 : ∀ x, f x = f' (c2 x)) (x : α × β) : e2 e f x = e2 e' f' (c x.1, c2 x.2) := by simp [e2, h, h2]
theorem co_3 {ε α' β' γ' : Type} {e : α → D} {e' : α' → D} {f : β → D} {f' : β' → D} {g : ε → D} {g' : γ' → D} {c : α → α'} {c2 : β → β'} {c3 : ε → γ'} (h : ∀ x, e x = e' (c x)) (h2 : ∀ x, f x = f' (c2 x)) (h3 : ∀ x, g x = g' (c3 x)) (x : α × β × ε) : e3 e f g x = e3 e' f' g' (c x.1, c2 x.2.1, c3 x.2.2) := by simp [e3, h, h2, h3]
end
end TL
set_option Elab.async false
set_option linter.all false
set_option maxRecDepth 100000
set_option maxHeartbeats 2000000
namespace TL
open PySem PySem.Spec PyProof.Rows L2 DL
variable {α β γ δ σ τ ρ σ1 ρ1 : Type}
/-! ## statements -/
section
variable {pl pm : En → En} {ml : τ → En} {mk : σ → En} {er : ρ → D} {env : En} {f : En → R D} {F G A : En → Fl} {t u : En → R Bool} {i j : Nat} {T : Tg} {b : Bool} {c : Str} {r : Fl}
theorem rs_ob {a : Option α} {k : α → TF τ σ ρ} (h : ∀ v, a = some v → RS pl ml pm mk er r (k v)) : RS pl ml pm mk er r (obind a k) := by
  cases a with
  | none => trivial
  | some v => exact h v rfl
theorem rs_tl {a : α} {k : α → TF τ σ ρ} (h : RS pl ml pm mk er r (k a)) : RS pl ml pm mk er r (tlet a k) := h
/-- one statement alone is one with nothing behind it -/
theorem rs_last {t : TF τ σ ρ} (h : RS pl ml pm mk er (sSeq F sNil env) t) : RS pl ml pm mk er (F env) t := by
  have e : sSeq F sNil env = F env := by
    rw [sSeq_eq]; cases F env <;> rfl
  rwa [e] at h
theorem rs_nil {s : σ} (h : pm env = mk s) : RS pl ml pm mk er (sNil env) (.nx s) := ⟨env, rfl, h⟩
theorem rs_brk {s : τ} (h : pl env = ml s) : RS pl ml pm mk er (sBreak env) (.bk s) := ⟨env, rfl, h⟩
theorem rs_cont {s : τ} (h : pl env = ml s) : RS pl ml pm mk er (sCont env) (.ct s) := ⟨env, rfl, h⟩
theorem rs_raise : RS pl ml pm mk er (sRaise c env) (.ex c) := ⟨env, rfl⟩
theorem rs_ret {x : ρ} (hf : f env = .ok (er x)) : RS pl ml pm mk er (sRet f env) (.rt x) := by
  show sRet f env = .rt (er x)
  rw [sRet_eq, hf]; rfl
theorem rs_retR {a : R ρ} (hf : RG er (f env) a) : RS pl ml pm mk er (sRet f env) (rret a) := by
  cases a with
  | ok x => show sRet f env = _; rw [sRet_eq, show f env = .ok (er x) from hf]; rfl
  | ex c => exact ⟨env, by rw [sRet_eq, show f env = .ex c from hf]; rfl⟩
  | no => trivial
theorem rs_retN {x : ρ} (h : er x = .non) : RS pl ml pm mk er (sRetN env) (.rt x) := by
  show sRetN env = .rt (er x)
  rw [h]; rfl
theorem rs_retV {x : ρ} (h : env[i]? = some (.ow (er x))) : RS pl ml pm mk er (sRetV i env) (.rt x) := by
  show sRetV i env = .rt (er x)
  unfold sRetV; rw [h]
theorem rs_retS {x : ρ} (hm : imm (er x) = true) (h : env[i]? = some (.sh (er x))) : RS pl ml pm mk er (sRetV i env) (.rt x) := by
  show sRetV i env = .rt (er x)
  unfold sRetV; rw [h]; simp only; rw [if_pos hm]
/-! x = e -/
theorem seq_nx {e : En} {t : TF τ σ ρ} (h : F env = .nx e) (g : RS pl ml pm mk er (G e) t) : RS pl ml pm mk er (sSeq F G env) t := by
  rw [sSeq_nx h]; exact g
theorem seq_ex {k : TF τ σ ρ} (h : ∃ e, F env = .ex c e) : RS pl ml pm mk er (sSeq F G env) (.ex c) := by
  obtain ⟨e, h⟩ := h
  exact ⟨e, sSeq_ex h⟩
theorem lt_of {i n : Nat} (h : Nat.blt i n = true) : i < n := Nat.blt_eq.mp h
theorem rs_setF (e : α → D) {x : α} {k : α → TF τ σ ρ} (hf : f env = .ok (e x)) (h : ∀ y, RS pl ml pm mk er (G (env.set i (.ow (e y)))) (k y)) (hi : Nat.blt i env.length = true := by rfl) : RS pl ml pm mk er (sSeq (sSetF i f) G env) (tlet x k) :=
  seq_nx (by rw [sSetF_eq, hf, onE_ok, if_pos (lt_of hi)]) (h x)
theorem rs_setFR (e : α → D) {a : R α} {k : α → TF τ σ ρ} (hf : RG e (f env) a) (h : ∀ y, RS pl ml pm mk er (G (env.set i (.ow (e y)))) (k y)) (hi : Nat.blt i env.length = true := by rfl) : RS pl ml pm mk er (sSeq (sSetF i f) G env) (rbind a k) := by
  cases a with
  | ok x => exact rs_setF e hf h hi
  | ex c => exact seq_ex (k := .no) ⟨env, by rw [sSetF_eq, show f env = .ex c from hf]; rfl⟩
  | no => trivial
theorem rs_setI (e : α → D) {x : α} {k : α → TF τ σ ρ} (hm : ∀ v, imm (e v) = true) (hf : f env = .ok (e x)) (h : ∀ y, RS pl ml pm mk er (G (env.set i (.ow (e y)))) (k y)) (hi : Nat.blt i env.length = true := by rfl) : RS pl ml pm mk er (sSeq (sSetI i f) G env) (tlet x k) :=
  seq_nx (by rw [sSetI_eq, hf, onE_ok, if_pos ⟨hm x, lt_of hi⟩]) (h x)
theorem rs_setIR (e : α → D) {a : R α} {k : α → TF τ σ ρ} (hm : ∀ v, imm (e v) = true) (hf : RG e (f env) a) (h : ∀ y, RS pl ml pm mk er (G (env.set i (.ow (e y)))) (k y)) (hi : Nat.blt i env.length = true := by rfl) : RS pl ml pm mk er (sSeq (sSetI i f) G env) (rbind a k) := by
  cases a with
  | ok x => exact rs_setI e hm hf h hi
  | ex c => exact seq_ex (k := .no) ⟨env, by rw [sSetI_eq, show f env = .ex c from hf]; rfl⟩
  | no => trivial
/-- of dynamic values: it must be seen that it can't be changed -/
def immO (d : D) : Option Unit := if imm d = true then some () else none
theorem immO_some {d : D} {u : Unit} (h : immO d = some u) : imm d = true := by
  unfold immO at h; split at h
  · assumption
  · cases h
theorem rs_setId {x : D} {k : D → TF τ σ ρ} (hm : imm x = true) (hf : f env = .ok x) (h : ∀ y, RS pl ml pm mk er (G (env.set i (.ow y))) (k y)) (hi : Nat.blt i env.length = true := by rfl) : RS pl ml pm mk er (sSeq (sSetI i f) G env) (tlet x k) :=
  seq_nx (by rw [sSetI_eq, hf, onE_ok, if_pos ⟨hm, lt_of hi⟩]) (h x)
theorem rs_setS (e : α → D) {x : α} {k : α → TF τ σ ρ} (hf : f (env.map hideS) = .ok (e x)) (h : ∀ y, RS pl ml pm mk er (G (env.set i (.sh (e y)))) (k y)) (hi : Nat.blt i env.length = true := by rfl) : RS pl ml pm mk er (sSeq (sSetS i f) G env) (tlet x k) :=
  seq_nx (by rw [sSetS_eq, hf, onE_ok, if_pos (lt_of hi)]) (h x)
theorem rs_setN (e : α → D) {x : α} {k : α → TF τ σ ρ} (hl : look env j = some (e x)) (hij : Nat.beq i j = false) (h : ∀ y, RS pl ml pm mk er (G ((freeze j env).set i (.sh (e y)))) (k y)) (hi : Nat.blt i env.length = true := by rfl) : RS pl ml pm mk er (sSeq (sSetN i j) G env) (tlet x k) :=
  seq_nx (by unfold sSetN; rw [hl]; simp only; rw [if_pos ⟨lt_of hi, fun c => by subst c; simp at hij⟩]) (h x)
theorem rs_drop {a : R α} {e : α → D} {k : α → TF τ σ ρ} (hf : RG e (f env) a) (h : ∀ y, RS pl ml pm mk er (G env) (k y)) : RS pl ml pm mk er (sSeq (sDrop f) G env) (rbind a k) := by
  cases a with
  | ok x => exact seq_nx (by rw [sDrop_eq, show f env = .ok (e x) from hf, onE_ok]) (h x)
  | ex c => exact seq_ex (k := .no) ⟨env, by rw [sDrop_eq, show f env = .ex c from hf]; rfl⟩
  | no => trivial
/-- several names at once -/
theorem rs_putF (e : α → D) {x : α} {k : α → TF τ σ ρ} {env' : α → En} (hf : f env = .ok (e x)) (hp : ∀ y, put T (e y) env = some (env' y)) (h : ∀ y, RS pl ml pm mk er (G (env' y)) (k y)) : RS pl ml pm mk er (sSeq (sPutF T f) G env) (tlet x k) :=
  seq_nx (by rw [sPutF_eq, hf, onE_ok]; unfold sPut; rw [hp x]) (h x)
theorem rs_putFR (e : α → D) {a : R α} {k : α → TF τ σ ρ} {env' : α → En} (hf : RG e (f env) a) (hp : ∀ y, put T (e y) env = some (env' y)) (h : ∀ y, RS pl ml pm mk er (G (env' y)) (k y)) : RS pl ml pm mk er (sSeq (sPutF T f) G env) (rbind a k) := by
  cases a with
  | ok x => exact rs_putF e hf hp h
  | ex c => exact seq_ex (k := .no) ⟨env, by rw [sPutF_eq, show f env = .ex c from hf]; rfl⟩
  | no => trivial
theorem rs_putS (e : α → D) {x : α} {k : α → TF τ σ ρ} {env' : α → En} (hf : f (env.map hideS) = .ok (e x)) (hp : ∀ y, put T (e y) env = some (env' y)) (h : ∀ y, RS pl ml pm mk er (G (env' y)) (k y)) : RS pl ml pm mk er (sSeq (sPutS T f) G env) (tlet x k) :=
  seq_nx (by rw [sPutS_eq, hf, onE_ok]; unfold sPut; rw [hp x]) (h x)
theorem rs_aug {Fo : Int → Int → Option Int} {m n z : Int} {k : Int → TF τ σ ρ} (hl : look env i = some (.int m)) (hf : f env = .ok (.int n)) (hz : Fo m n = some z) (h : ∀ y, RS pl ml pm mk er (G (env.set i (.ow (.int y)))) (k y)) : RS pl ml pm mk er (sSeq (sAug i Fo f) G env) (tlet z k) :=
  seq_nx (by unfold sAug; rw [hl]; simp only; rw [hf, onE_ok]; simp only; rw [hz]) (h z)
/-! lists -/
theorem rs_app (e : α → D) {xs : List α} {x : α} {k : List α → TF τ σ ρ} (hl : env[i]? = some (.ow (eL e xs))) (hf : f env = .ok (e x)) (hm : imm (e x) = true) (h : ∀ ys, RS pl ml pm mk er (G (env.set i (.ow (eL e ys)))) (k ys)) : RS pl ml pm mk er (sSeq (sAppI i f) G env) (obind (appO xs x) k) := by
  unfold appO
  split
  · rename_i c
    refine seq_nx ?_ (h _)
    show onList i env _ = _
    unfold onList; rw [hl]; simp only [eL]
    rw [hf, onE_ok, if_pos hm]
    unfold appL
    rw [if_pos (by simpa using c)]
    simp
  · trivial
theorem rs_appF (e : α → D) {xs : List α} {x : α} {k : List α → TF τ σ ρ} (hl : env[i]? = some (.ow (eL e xs))) (hf : f env = .ok (e x)) (h : ∀ ys, RS pl ml pm mk er (G (env.set i (.ow (eL e ys)))) (k ys)) : RS pl ml pm mk er (sSeq (sAppF i f) G env) (obind (appO xs x) k) := by
  unfold appO
  split
  · rename_i c
    refine seq_nx ?_ (h _)
    show onList i env _ = _
    unfold onList; rw [hl]; simp only [eL]
    rw [hf, onE_ok]
    unfold appL
    rw [if_pos (by simpa using c)]
    simp
  · trivial
theorem rs_ext (e : α → D) {xs ys : List α} {k : List α → TF τ σ ρ} (hm : ∀ v, imm (e v) = true) (hl : env[i]? = some (.ow (eL e xs))) (hf : f env = .ok (eL e ys)) (h : ∀ ys, RS pl ml pm mk er (G (env.set i (.ow (eL e ys)))) (k ys)) : RS pl ml pm mk er (sSeq (sExtI i f) G env) (obind (extO xs ys) k) := by
  unfold extO
  split
  · rename_i c
    refine seq_nx ?_ (h _)
    show onList i env _ = _
    unfold onList; rw [hl]; simp only [eL]
    rw [hf, onE_ok, if_pos (by simp only [eL, immTop_lst, immAll_all, List.all_eq_true]; intro d hd; obtain ⟨v, _, rfl⟩ := List.mem_map.mp hd; exact hm v)]
    simp only [eL, extL]
    rw [if_pos (by simpa using c)]
    simp
  · trivial
/-! if -/
theorem rs_if {tA tB : TF τ σ ρ} (ht : t env = .ok b) (hA : RS pl ml pm mk er (F env) tA) (hB : RS pl ml pm mk er (G env) tB) : RS pl ml pm mk er (sIf t F G env) (if b = true then tA else tB) := by
  rw [sIf_eq, ht, onE_ok]
  cases b with
  | true => exact hA
  | false => exact hB
theorem RS.up {t : TF τ Empty ρ} {mk0 : Empty → En} {pm0 : En → En} (h : RS pl ml pm0 mk0 er r t) : RS pl ml pm mk er r t.up := by
  cases t with
  | nx s => exact nomatch s
  | rt x => exact h
  | bk s => exact h
  | ct s => exact h
  | ex c => exact h
  | no => trivial
theorem up_seq {t : TF τ Empty ρ} {mk0 : Empty → En} {pm0 : En → En} (h : RS pl ml pm0 mk0 er (F env) t) : RS pl ml pm mk er (sSeq F G env) t.up := by
  cases t with
  | nx s => exact nomatch s
  | rt x => show sSeq F G env = _; rw [sSeq_eq, show F env = .rt (er x) from h]
  | bk s => obtain ⟨e, h1, h2⟩ := h; exact ⟨e, by rw [sSeq_eq, h1], h2⟩
  | ct s => obtain ⟨e, h1, h2⟩ := h; exact ⟨e, by rw [sSeq_eq, h1], h2⟩
  | ex c => obtain ⟨e, h1⟩ := h; exact ⟨e, by rw [sSeq_eq, h1]⟩
  | no => trivial
/-- if c: .. that does not go on -/
theorem rs_ifX {tA : TF τ Empty ρ} {tB : TF τ σ ρ} (ht : t env = .ok b) (hA : RS pl ml id (fun s : Empty => nomatch s) er (F env) tA) (hB : RS pl ml pm mk er (G env) tB) : RS pl ml pm mk er (sSeq (sIf t F sNil) G env) (if b = true then tA.up else tB) := by
  cases b with
  | true =>
    rw [if_pos rfl]
    refine up_seq (F := sIf t F sNil) (pm0 := id) (mk0 := fun s : Empty => nomatch s) ?_
    rw [sIf_eq, ht, onE_ok, if_pos rfl]; exact hA
  | false =>
    rw [if_neg (by simp)]
    exact seq_nx (e := env) (by rw [sIf_eq, ht]; rfl) hB
theorem rs_ifY {tA : TF τ σ ρ} {tB : TF τ Empty ρ} (ht : t env = .ok b) (hA : RS pl ml pm mk er (sSeq A G env) tA) (hB : RS pl ml id (fun s : Empty => nomatch s) er (F env) tB) : RS pl ml pm mk er (sSeq (sIf t A F) G env) (if b = true then tA else tB.up) := by
  cases b with
  | false =>
    rw [if_neg (by simp)]
    refine up_seq (F := sIf t A F) (pm0 := id) (mk0 := fun s : Empty => nomatch s) ?_
    rw [sIf_eq, ht, onE_ok, if_neg (by simp)]; exact hB
  | true =>
    rw [if_pos rfl]
    have e : sSeq (sIf t A F) G env = sSeq A G env := by
      rw [sSeq_eq, sIf_eq, ht, onE_ok, if_pos rfl, sSeq_eq]
    rw [e]; exact hA
/-- a block, then what follows -/
theorem rs_seqM {ms : List Nat} (mk1 : σ1 → En) {tA : TF τ σ1 ρ} {k : σ1 → TF τ σ ρ} (hA : RS pl ml (maskE ms) mk1 er (A env) tA) (h : ∀ s, RS pl ml pm mk er (G (mk1 s)) (k s)) : RS pl ml pm mk er (sSeq (sMaskN ms A) G env) (tA.bind k) := by
  cases tA with
  | nx s => obtain ⟨e, h1, h2⟩ := hA; exact seq_nx (e := mk1 s) (by show (A env).maskN ms = _; rw [h1, ← h2]; rfl) (h s)
  | rt x => show sSeq _ G env = _; rw [sSeq_eq]; unfold sMaskN; rw [show A env = .rt (er x) from hA]; rfl
  | bk s => obtain ⟨e, h1, h2⟩ := hA; exact ⟨e, by rw [sSeq_eq]; unfold sMaskN; rw [h1]; rfl, h2⟩
  | ct s => obtain ⟨e, h1, h2⟩ := hA; exact ⟨e, by rw [sSeq_eq]; unfold sMaskN; rw [h1]; rfl, h2⟩
  | ex c => obtain ⟨e, h1⟩ := hA; exact ⟨e, by rw [sSeq_eq]; unfold sMaskN; rw [h1]; rfl⟩
  | no => trivial
/-! loops -/
/-- an item to its names, then the body -/
def RSP (pl : En → En) (ml : σ → En) (T : Tg) (d : D) (env : En) (F : En → Fl) (er : ρ → D) (t : TF σ σ ρ) : Prop := t = .no ∨ ∃ e1, put T d env = some e1 ∧ RS pl ml pl ml er (F e1) t
theorem rsp_ok {ml : σ → En} {d : D} {e1 : En} {t : TF σ σ ρ} (h : put T d env = some e1) (q : RS pl ml pl ml er (F e1) t) : RSP pl ml T d env F er t := .inr ⟨e1, h, q⟩
theorem rsp_ob {ml : σ → En} {d : D} {o : Option α} {k : α → TF σ σ ρ} (h : ∀ v, o = some v → RSP pl ml T d env F er (k v)) : RSP pl ml T d env F er (obind o k) := by
  cases o with
  | none => exact .inl rfl
  | some v => exact h v rfl
theorem loop_tf {ms : List Nat} {mk1 : σ1 → En} {eb : β → D} {tb : σ1 → β → TF σ1 σ1 ρ} (hb : ∀ s x, RSP (maskE ms) mk1 T (eb x) (mk1 s) F er (tb s x)) : ∀ (xs : List β) (s : σ1), RS pl ml id mk1 er (loop T (sMask ms F) (xs.map eb) (mk1 s)) (tfor xs s tb : TF τ σ1 ρ)
  | [], s => ⟨mk1 s, rfl, rfl⟩
  | x :: xs, s => by
    rcases hb s x with h | ⟨e1, h1, h2⟩
    · conv => arg 7; unfold tfor
      rw [h]; trivial
    · simp only [List.map_cons]
      conv => arg 7; unfold tfor
      unfold loop
      rw [h1]
      cases q : tb s x with
      | nx s' =>
        rw [q] at h2; obtain ⟨e, h3, h4⟩ := h2
        have : sMask ms F e1 = .nx (mk1 s') := by unfold sMask; rw [h3, ← h4]; rfl
        simp only [this]
        exact loop_tf hb xs s'
      | ct s' =>
        rw [q] at h2; obtain ⟨e, h3, h4⟩ := h2
        have : sMask ms F e1 = .ct (mk1 s') := by unfold sMask; rw [h3, ← h4]; rfl
        simp only [this]
        exact loop_tf hb xs s'
      | bk s' =>
        rw [q] at h2; obtain ⟨e, h3, h4⟩ := h2
        have : sMask ms F e1 = .bk (mk1 s') := by unfold sMask; rw [h3, ← h4]; rfl
        simp only [this]
        exact ⟨_, rfl, rfl⟩
      | rt v =>
        rw [q] at h2
        have : sMask ms F e1 = .rt (er v) := by unfold sMask; rw [show F e1 = .rt (er v) from h2]; rfl
        simp only [this]
        exact rfl
      | ex c =>
        rw [q] at h2; obtain ⟨e, h3⟩ := h2
        have : sMask ms F e1 = .ex c e := by unfold sMask; rw [h3]; rfl
        simp only [this]
        exact ⟨e, rfl⟩
      | no => trivial
theorem bind_after {mk1 : σ1 → En} {tA : TF τ σ1 ρ} {k : σ1 → TF τ σ ρ} (hA : RS pl ml id mk1 er (A env) tA) (h : ∀ s, RS pl ml pm mk er (G (mk1 s)) (k s)) : RS pl ml pm mk er (sSeq A G env) (tA.bind k) := by
  cases tA with
  | nx s => obtain ⟨e, h1, h2⟩ := hA; exact seq_nx (e := mk1 s) (by rw [h1, ← h2]; rfl) (h s)
  | rt x => show sSeq _ G env = _; rw [sSeq_eq]; rw [show A env = .rt (er x) from hA]
  | bk s => obtain ⟨e, h1, h2⟩ := hA; exact ⟨e, by rw [sSeq_eq, h1], h2⟩
  | ct s => obtain ⟨e, h1, h2⟩ := hA; exact ⟨e, by rw [sSeq_eq, h1], h2⟩
  | ex c => obtain ⟨e, h1⟩ := hA; exact ⟨e, by rw [sSeq_eq, h1]⟩
  | no => trivial
theorem rs_forF {ms0 ms : List Nat} (mk1 : σ1 → En) (eb : β → D) {fi : En → R (List D)} {xs : List β} {s0 : σ1} {tb : σ1 → β → TF σ1 σ1 ρ} {k : σ1 → TF τ σ ρ} (h0 : maskE ms0 env = mk1 s0) (hi : fi (mk1 s0) = .ok (xs.map eb))
    (hb : ∀ s x, RSP (maskE ms) mk1 T (eb x) (mk1 s) F er (tb s x)) (h : ∀ s, RS pl ml pm mk er (G (mk1 s)) (k s)) : RS pl ml pm mk er (sSeq (sPre ms0 (sForF T fi (sMask ms F))) G env) ((tfor xs s0 tb : TF τ σ1 ρ).bind k) := by
  refine bind_after (mk1 := mk1) ?_ h
  unfold sPre; rw [h0, sForF_eq, hi, onE_ok]
  exact loop_tf hb xs s0
theorem rs_forS {ms0 ms fz : List Nat} (mk1 : σ1 → En) (eb : β → D) {fi : En → R (List D)} {xs : List β} {s0 : σ1} {tb : σ1 → β → TF σ1 σ1 ρ} {k : σ1 → TF τ σ ρ} (h0 : maskE ms0 env = mk1 s0) (hz : freezes fz (mk1 s0) = mk1 s0) (hi : fi ((mk1 s0).map hideS) = .ok (xs.map eb))
    (hb : ∀ s x, RSP (maskE ms) mk1 T (eb x) (mk1 s) F er (tb s x)) (h : ∀ s, RS pl ml pm mk er (G (mk1 s)) (k s)) : RS pl ml pm mk er (sSeq (sPre ms0 (sForS fz T fi (sMask ms F))) G env) ((tfor xs s0 tb : TF τ σ1 ρ).bind k) := by
  refine bind_after (mk1 := mk1) ?_ h
  unfold sPre sForS; rw [h0, hz, hi, onE_ok]
  exact loop_tf hb xs s0
theorem wloop_tf {ms : List Nat} {mk1 : σ1 → En} {c : σ1 → Option Bool} {tb : σ1 → TF σ1 σ1 ρ} (hc : ∀ s w, c s = some w → t (mk1 s) = .ok w) (hb : ∀ s, RS (maskE ms) mk1 (maskE ms) mk1 er (F (mk1 s)) (tb s)) : ∀ (n : Nat) (s : σ1), RS pl ml id mk1 er (wloop t (sMask ms F) n (mk1 s)) (twhile n s c tb : TF τ σ1 ρ)
  | 0, s => trivial
  | n + 1, s => by
    conv => arg 7; unfold twhile
    unfold wloop
    cases qc : c s with
    | none => trivial
    | some w =>
      rw [hc s w qc]
      cases w with
      | false => exact ⟨_, rfl, rfl⟩
      | true =>
        simp only
        have h2 := hb s
        cases q : tb s with
        | nx s' =>
          rw [q] at h2; obtain ⟨e, h3, h4⟩ := h2
          have : sMask ms F (mk1 s) = .nx (mk1 s') := by unfold sMask; rw [h3, ← h4]; rfl
          simp only [onE_ok, if_true, this]
          exact wloop_tf hc hb n s'
        | ct s' =>
          rw [q] at h2; obtain ⟨e, h3, h4⟩ := h2
          have : sMask ms F (mk1 s) = .ct (mk1 s') := by unfold sMask; rw [h3, ← h4]; rfl
          simp only [onE_ok, if_true, this]
          exact wloop_tf hc hb n s'
        | bk s' =>
          rw [q] at h2; obtain ⟨e, h3, h4⟩ := h2
          have : sMask ms F (mk1 s) = .bk (mk1 s') := by unfold sMask; rw [h3, ← h4]; rfl
          simp only [onE_ok, if_true, this]
          exact ⟨_, rfl, rfl⟩
        | rt v =>
          rw [q] at h2
          have : sMask ms F (mk1 s) = .rt (er v) := by unfold sMask; rw [show F (mk1 s) = .rt (er v) from h2]; rfl
          simp only [onE_ok, if_true, this]
          exact rfl
        | ex c =>
          rw [q] at h2; obtain ⟨e, h3⟩ := h2
          have : sMask ms F (mk1 s) = .ex c e := by unfold sMask; rw [h3]; rfl
          simp only [onE_ok, if_true, this]
          exact ⟨e, rfl⟩
        | no => trivial
theorem rs_while {ms0 ms : List Nat} {n : Nat} (mk1 : σ1 → En) {s0 : σ1} {c : σ1 → Option Bool} {tb : σ1 → TF σ1 σ1 ρ} {k : σ1 → TF τ σ ρ} (h0 : maskE ms0 env = mk1 s0) (hc : ∀ s w, c s = some w → t (mk1 s) = .ok w)
    (hb : ∀ s, RS (maskE ms) mk1 (maskE ms) mk1 er (F (mk1 s)) (tb s)) (h : ∀ s, RS pl ml pm mk er (G (mk1 s)) (k s)) : RS pl ml pm mk er (sSeq (sPre ms0 (sWhile n t (sMask ms F))) G env) ((twhile n s0 c tb : TF τ σ1 ρ).bind k) := by
  refine bind_after (mk1 := mk1) ?_ h
  unfold sPre sWhile; rw [h0]
  exact wloop_tf hc hb n s0
end
/-! ## defs -/
theorem rf_run {er : ρ → D} {G : En → Fl} {n m : Nat} {ds : List D} {t : TF Unit Unit ρ} {nv : ρ} (hv : er nv = .non) (h : RS (fun _ => []) (fun _ => []) (fun _ => []) (fun _ => []) er (G (ds.map .sh ++ List.replicate (m - n) .un)) t) (hn : ds.length = n := by rfl) : RG er (runD n m G ds) (t.run nv) := by
  cases t with
  | nx s => obtain ⟨e, h1, _⟩ := h; show runD n m G ds = _; rw [runD_nx hn h1, hv]
  | rt x => exact runD_rt hn h
  | bk s => trivial
  | ct s => trivial
  | ex c => obtain ⟨e, h1⟩ := h; exact runD_ex hn h1
  | no => trivial
theorem rf_run' {er : ρ → D} {G : En → Fl} {n m : Nat} {ds : List D} {t : TF Unit Empty ρ} (h : RS (fun _ => []) (fun _ => []) (fun _ => []) (fun s => nomatch s) er (G (ds.map .sh ++ List.replicate (m - n) .un)) t) (hn : ds.length = n := by rfl) : RG er (runD n m G ds) t.run' := by
  cases t with
  | nx s => exact nomatch s
  | rt x => exact runD_rt hn h
  | bk s => trivial
  | ct s => trivial
  | ex c => obtain ⟨e, h1⟩ := h; exact runD_ex hn h1
  | no => trivial
end TL
set_option Elab.async false
set_option linter.all false
set_option maxRecDepth 100000
set_option maxHeartbeats 2000000
namespace TL
open PySem PySem.Spec PyProof.Rows L2 DL
variable {α β γ δ : Type}
/-! ## facts of operations on written values -/
/-! ### can't be changed -/
theorem im_int (x : Int) : imm (.int x) = true := by simp [imm]
theorem im_bl (x : Bool) : imm (.bl x) = true := by simp [imm]
theorem im_str (x : Str) : imm (.str x) = true := by simp [imm]
theorem im_N (x : Unit) : imm (eN x) = true := by simp [eN, imm]
theorem im_T {e : α → D} (h : ∀ x, imm (e x) = true) (xs : List α) : imm (eT e xs) = true := by
  simp only [eT, imm, immAll_all, List.all_eq_true]
  intro d hd; obtain ⟨x, _, rfl⟩ := List.mem_map.mp hd; exact h x
theorem im_0 (x : Unit) : imm (e0 x) = true := by simp [e0, imm]
theorem im_1 {e : α → D} (h : ∀ x, imm (e x) = true) (x : α) : imm (e1 e x) = true := by simp [e1, imm, h]
theorem im_2 {e : α → D} {f : β → D} (h : ∀ x, imm (e x) = true) (h2 : ∀ x, imm (f x) = true) (x : α × β) : imm (e2 e f x) = true := by simp [e2, imm, h, h2]
theorem im_3 {e : α → D} {f : β → D} {g : γ → D} (h : ∀ x, imm (e x) = true) (h2 : ∀ x, imm (f x) = true) (h3 : ∀ x, imm (g x) = true) (x : α × β × γ) : imm (e3 e f g x) = true := by simp [e3, imm, h, h2, h3]
theorem im_4 {e : α → D} {f : β → D} {g : γ → D} {k : δ → D} (h : ∀ x, imm (e x) = true) (h2 : ∀ x, imm (f x) = true) (h3 : ∀ x, imm (g x) = true) (h4 : ∀ x, imm (k x) = true) (x : α × β × γ × δ) : imm (e4 e f g k x) = true := by simp [e4, imm, h, h2, h3, h4]
theorem im_O {e : α → D} (h : ∀ x, imm (e x) = true) (x : Option α) : imm (eO e x) = true := by cases x <;> simp [eO, imm, h]
theorem immTop_of {d : D} (h : imm d = true) : immTop d = true := by
  cases d <;> simp_all [imm, immTop]
theorem it_L {e : α → D} (h : ∀ x, imm (e x) = true) (xs : List α) : immTop (eL e xs) = true := by
  simp only [eL, immTop_lst, immAll_all, List.all_eq_true]
  intro d hd; obtain ⟨x, _, rfl⟩ := List.mem_map.mp hd; exact h x
theorem it_of {e : α → D} (h : ∀ x, imm (e x) = true) (x : α) : immTop (e x) = true := immTop_of (h x)
def immTopO (d : D) : Option Unit := if immTop d = true then some () else none
theorem immTopO_some {d : D} {u : Unit} (h : immTopO d = some u) : immTop d = true := by
  unfold immTopO at h; split at h
  · assumption
  · cases h
/-! ### == -/
structure Fit [DecidableEq α] (e : α → D) (n : Nat) : Prop where
  pl : ∀ x, DL.plain (e x) = true
  dp : ∀ x, (toPy (e x)).depth ≤ n
  eq : ∀ x y, eqv (e x) (e y) = decide (x = y)
theorem fit_int : Fit D.int 0 := ⟨fun _ => rfl, fun _ => by simp [toPy, PyData.depth], fun x y => by simp [eqv_int, Bool.beq_eq_decide_eq]⟩
theorem fit_bl : Fit D.bl 0 := ⟨fun _ => rfl, fun _ => by simp [toPy, PyData.depth], fun x y => by simp [eqv_bl, Bool.beq_eq_decide_eq]⟩
theorem fit_str : Fit D.str 0 := ⟨fun _ => rfl, fun _ => by simp [toPy, PyData.depth], fun x y => by simp [eqv, toPy, PyData.eqv, Bool.beq_eq_decide_eq]⟩
theorem fit_N : Fit eN 0 := ⟨fun _ => rfl, fun _ => by simp [eN, toPy, PyData.depth], fun x y => by simp [eN, eqv, toPy, PyData.eqv]⟩
section
variable [DecidableEq α] [DecidableEq β] [DecidableEq γ] [DecidableEq δ] {e : α → D} {f : β → D} {g : γ → D} {k : δ → D} {n m p q : Nat}
theorem eqvAll_map (h : Fit e n) : ∀ xs ys : List α, PyData.eqvAll (toPyAll (xs.map e)) (toPyAll (ys.map e)) = decide (xs = ys)
  | [], [] => by simp [toPyAll, PyData.eqvAll]
  | [], _ :: _ => by simp [toPyAll, PyData.eqvAll]
  | _ :: _, [] => by simp [toPyAll, PyData.eqvAll]
  | a :: xs, b :: ys => by
    have ih := eqvAll_map h xs ys
    have e1 : PyData.eqv (toPy (e a)) (toPy (e b)) = decide (a = b) := h.eq a b
    simp only [List.map_cons, toPyAll, PyData.eqvAll, ih, e1]
    by_cases c : a = b
    · subst c; simp
    · simp [c]
theorem dpAll_map (h : Fit e n) (xs : List α) : PyData.depthAll (toPyAll (xs.map e)) ≤ n := by
  rw [toPyAll_map']
  refine depthAll_le fun d hd => ?_
  obtain ⟨x, hx, rfl⟩ := List.mem_map.mp hd
  obtain ⟨y, _, rfl⟩ := List.mem_map.mp hx
  exact h.dp y
def Ly (e : α → D) : Prop := ∀ x, (toPy (e x)).canLay0 = true
theorem lyAll_map {e : α → D} (h : Ly e) (xs : List α) : PyData.canLayAll0 (toPyAll (xs.map e)) = true := by
  rw [canLayAll_all, toPyAll_map', List.all_eq_true]
  intro d hd
  obtain ⟨x, hx, rfl⟩ := List.mem_map.mp hd
  obtain ⟨y, _, rfl⟩ := List.mem_map.mp hx
  exact h y
theorem plAll_map (h : Fit e n) (xs : List α) : plainAll (xs.map e) = true := by
  rw [plainAll_all, List.all_eq_true]
  intro d hd
  obtain ⟨x, hx, rfl⟩ := List.mem_map.mp hd
  exact h.pl x
theorem fit_L (h : Fit e n) : Fit (eL e) (n + 1) := ⟨fun xs => by simp only [eL, DL.plain]; exact plAll_map h xs,
  fun xs => by simp only [eL, toPy, PyData.depth]; have := dpAll_map h xs; omega, fun xs ys => by simp only [eL, eqv, toPy, PyData.eqv]; exact eqvAll_map h xs ys⟩
theorem fit_Z (h : Fit e n) : Fit (eZ e) (n + 1) := ⟨fun xs => by simp only [eZ, DL.plain]; exact plAll_map h xs,
  fun xs => by simp only [eZ, toPy, PyData.depth]; have := dpAll_map h xs; omega, fun xs ys => by simp only [eZ, eqv, toPy, PyData.eqv]; exact eqvAll_map h xs ys⟩
theorem fit_T (h : Fit e n) : Fit (eT e) (n + 1) := ⟨fun xs => by simp only [eT, DL.plain]; exact plAll_map h xs,
  fun xs => by simp only [eT, toPy, PyData.depth]; have := dpAll_map h xs; omega, fun xs ys => by simp only [eT, eqv, toPy, PyData.eqv]; exact eqvAll_map h xs ys⟩
theorem eqv1 (h : Fit e n) (x y : α) : PyData.eqv (toPy (e x)) (toPy (e y)) = decide (x = y) := h.eq x y
theorem fit_0 : Fit e0 1 := ⟨fun _ => rfl, fun _ => by simp [e0, toPy, toPyAll, PyData.depth, PyData.depthAll], fun x y => by simp [e0, eqv, toPy, toPyAll, PyData.eqv, PyData.eqvAll]⟩
theorem fit_1 (h : Fit e n) : Fit (e1 e) (n + 1) := ⟨fun x => by simp [e1, DL.plain, plainAll, h.pl],
  fun x => by have := h.dp x; simp only [e1, toPy, toPyAll, PyData.depth, PyData.depthAll]; omega, fun x y => by simp [e1, eqv, toPy, toPyAll, PyData.eqv, PyData.eqvAll, eqv1 h]⟩
theorem fit_2 (h : Fit e n) (h2 : Fit f m) : Fit (e2 e f) (max n m + 1) := ⟨fun x => by simp [e2, DL.plain, plainAll, h.pl, h2.pl],
  fun x => by have := h.dp x.1; have := h2.dp x.2; simp only [e2, toPy, toPyAll, PyData.depth, PyData.depthAll]; omega, fun x y => by simp [e2, eqv, toPy, toPyAll, PyData.eqv, PyData.eqvAll, eqv1 h, eqv1 h2, Prod.ext_iff]⟩
theorem fit_3 (h : Fit e n) (h2 : Fit f m) (h3 : Fit g p) : Fit (e3 e f g) (max n (max m p) + 1) := ⟨fun x => by simp [e3, DL.plain, plainAll, h.pl, h2.pl, h3.pl],
  fun x => by have := h.dp x.1; have := h2.dp x.2.1; have := h3.dp x.2.2; simp only [e3, toPy, toPyAll, PyData.depth, PyData.depthAll]; omega, fun x y => by simp [e3, eqv, toPy, toPyAll, PyData.eqv, PyData.eqvAll, eqv1 h, eqv1 h2, eqv1 h3, Prod.ext_iff]⟩
theorem fit_4 (h : Fit e n) (h2 : Fit f m) (h3 : Fit g p) (h4 : Fit k q) : Fit (e4 e f g k) (max n (max m (max p q)) + 1) := ⟨fun x => by simp [e4, DL.plain, plainAll, h.pl, h2.pl, h3.pl, h4.pl],
  fun x => by have := h.dp x.1; have := h2.dp x.2.1; have := h3.dp x.2.2.1; have := h4.dp x.2.2.2; simp only [e4, toPy, toPyAll, PyData.depth, PyData.depthAll]; omega, fun x y => by simp [e4, eqv, toPy, toPyAll, PyData.eqv, PyData.eqvAll, eqv1 h, eqv1 h2, eqv1 h3, eqv1 h4, Prod.ext_iff]⟩
omit [DecidableEq α] [DecidableEq β] [DecidableEq γ] [DecidableEq δ] in
theorem ly_int : Ly D.int := fun _ => by simp [toPy, PyData.canLay0]
theorem ly_bl : Ly D.bl := fun _ => by simp [toPy, PyData.canLay0]
theorem ly_N : Ly eN := fun _ => by simp [eN, toPy, PyData.canLay0]
theorem ly_L {e : α → D} (h : Ly e) : Ly (eL e) := fun xs => by simp only [eL, toPy, PyData.canLay0]; exact lyAll_map h xs
theorem ly_Z {e : α → D} (h : Ly e) : Ly (eZ e) := fun xs => by simp only [eZ, toPy, PyData.canLay0]; exact lyAll_map h xs
theorem ly_T {e : α → D} (h : Ly e) : Ly (eT e) := fun xs => by simp only [eT, toPy, PyData.canLay0]; exact lyAll_map h xs
theorem ly_0 : Ly e0 := fun _ => by simp [e0, toPy, toPyAll, PyData.canLay0, PyData.canLayAll0]
theorem ly_1 {e : α → D} (h : Ly e) : Ly (e1 e) := fun x => by simp [e1, toPy, toPyAll, PyData.canLay0, PyData.canLayAll0, h x]
theorem ly_2 {e : α → D} {f : β → D} (h : Ly e) (h2 : Ly f) : Ly (e2 e f) := fun x => by simp [e2, toPy, toPyAll, PyData.canLay0, PyData.canLayAll0, h x.1, h2 x.2]
theorem ly_3 {e : α → D} {f : β → D} {g : γ → D} (h : Ly e) (h2 : Ly f) (h3 : Ly g) : Ly (e3 e f g) := fun x => by simp [e3, toPy, toPyAll, PyData.canLay0, PyData.canLayAll0, h x.1, h2 x.2.1, h3 x.2.2]
theorem ly_4 {e : α → D} {f : β → D} {g : γ → D} {k : δ → D} (h : Ly e) (h2 : Ly f) (h3 : Ly g) (h4 : Ly k) : Ly (e4 e f g k) := fun x => by simp [e4, toPy, toPyAll, PyData.canLay0, PyData.canLayAll0, h x.1, h2 x.2.1, h3 x.2.2.1, h4 x.2.2.2]
theorem ly_O {e : α → D} (h : Ly e) : Ly (eO e) := fun x => by cases x <;> simp [eO, toPy, PyData.canLay0]; exact h _
/-- whether a value's texts are texts -/
def layB (d : D) : Bool := (toPy d).canLay0
theorem Fit.ok (h : Fit e n) (l : Ly e) (x : α) (hn : n ≤ 60 := by decide) : okE (e x) = true := okE_of (h.pl x) (l x) (by have := h.dp x; omega)
theorem o_eq (h : Fit e n) (l : Ly e) (a b : α) (hn : n ≤ 60 := by decide) : eqD (e a) (e b) = some (.bl (decide (a = b))) := by
  simp only [eqD, fitE, h.ok l _ hn, Bool.and_self, Bool.or_true, if_true, h.eq]
theorem o_ne (h : Fit e n) (l : Ly e) (a b : α) (hn : n ≤ 60 := by decide) : neD (e a) (e b) = some (.bl (!decide (a = b))) := by
  simp only [neD, fitE, h.ok l _ hn, Bool.and_self, Bool.or_true, if_true, h.eq]
theorem any_eqv (h : Fit e n) (a : α) (xs : List α) : ((xs.map e).any fun z => eqv z (e a)) = decide (a ∈ xs) := by
  rw [List.any_map]
  induction xs with
  | nil => simp
  | cons x xs ih =>
    simp only [List.any_cons, Function.comp, h.eq, List.mem_cons] at ih ⊢
    rw [ih]
    by_cases c : x = a
    · subst c; simp
    · have : ¬ a = x := fun z => c z.symm
      simp [c, this]
theorem o_inL (h : Fit e n) (l : Ly e) (a : α) (xs : List α) (hn : n ≤ 59 := by decide) : inD (e a) (eL e xs) = some (.bl (decide (a ∈ xs))) := by
  show (if okE (e a) = true ∧ okE (eL e xs) = true then some ((xs.map e).any fun z => eqv z (e a)) else none).map D.bl = _
  rw [if_pos ⟨h.ok l a (by omega), (fit_L h).ok (ly_L l) xs (by omega)⟩, any_eqv h]; rfl
theorem o_inT (h : Fit e n) (l : Ly e) (a : α) (xs : List α) (hn : n ≤ 59 := by decide) : inD (e a) (eT e xs) = some (.bl (decide (a ∈ xs))) := by
  show (if okE (e a) = true ∧ okE (eT e xs) = true then some ((xs.map e).any fun z => eqv z (e a)) else none).map D.bl = _
  rw [if_pos ⟨h.ok l a (by omega), (fit_T h).ok (ly_T l) xs (by omega)⟩, any_eqv h]; rfl
theorem nin_of {x c : D} {b : Bool} (h : inD x c = some (.bl b)) : ninD x c = some (.bl (!b)) := by
  simp only [inD, ninD] at h ⊢
  cases q : inB x c with
  | none => rw [q] at h; cases h
  | some v => rw [q] at h; cases h; rfl
end
theorem o_eqS (a b : Str) : eqD (.str a) (.str b) = some (.bl (decide (a = b))) := by
  have : eqv (.str a) (.str b) = decide (a = b) := fit_str.eq a b
  simp only [eqD, fitE, DL.flat, Bool.and_self, Bool.true_or, if_true, this]
theorem o_neS (a b : Str) : neD (.str a) (.str b) = some (.bl (!decide (a = b))) := by
  have : eqv (.str a) (.str b) = decide (a = b) := fit_str.eq a b
  simp only [neD, fitE, DL.flat, Bool.and_self, Bool.true_or, if_true, this]
section
variable [DecidableEq α] {e : α → D} {n : Nat}
/-- == of what holds texts -/
def eqG (e : α → D) (a b : α) : Option Bool := if (layB (e a) && layB (e b)) = true then some (decide (a = b)) else none
theorem o_eqG (h : Fit e n) {a b : α} {v : Bool} (hv : eqG e a b = some v) (hn : n ≤ 60 := by decide) : eqD (e a) (e b) = some (.bl v) := by
  unfold eqG at hv
  split at hv
  · rename_i c; cases hv
    rw [Bool.and_eq_true] at c
    have h1 : okE (e a) = true := okE_of (h.pl a) c.1 (by have := h.dp a; omega)
    have h2 : okE (e b) = true := okE_of (h.pl b) c.2 (by have := h.dp b; omega)
    simp only [eqD, fitE, h1, h2, Bool.and_self, Bool.or_true, if_true, h.eq]
  · cases hv
theorem o_neG (h : Fit e n) {a b : α} {v : Bool} (hv : eqG e a b = some v) (hn : n ≤ 60 := by decide) : neD (e a) (e b) = some (.bl (!v)) := by
  unfold eqG at hv
  split at hv
  · rename_i c; cases hv
    rw [Bool.and_eq_true] at c
    have h1 : okE (e a) = true := okE_of (h.pl a) c.1 (by have := h.dp a; omega)
    have h2 : okE (e b) = true := okE_of (h.pl b) c.2 (by have := h.dp b; omega)
    simp only [neD, fitE, h1, h2, Bool.and_self, Bool.or_true, if_true, h.eq]
  · cases hv
end
/-! ### numbers -/
theorem o_add (a b : Int) : addD (.int a) (.int b) = some (.int (a + b)) := nr rfl
theorem o_sub (a b : Int) : subD (.int a) (.int b) = some (.int (a - b)) := nr rfl
def mulO (a b : Int) : Option Int := if fitMul a b = true then some (a * b) else none
theorem o_mul {a b c : Int} (h : mulO a b = some c) : mulD (.int a) (.int b) = some (.int c) := by
  unfold mulO at h; split at h
  · cases h; rename_i q; show (if fitMul a b = true then _ else _) = _; rw [if_pos q]
  · cases h
@[simp] theorem mulO_eq {a b : Int} (h : fitMul a b = true) : mulO a b = some (a * b) := by unfold mulO; rw [if_pos h]
/-- a times a written number -/
theorem o_mulR (a : Int) {b : Int} (h : (decide (-(2 ^ 64) < b) && decide (b < 2 ^ 64)) = true) : mulD (.int a) (.int b) = some (.int (a * b)) := by
  show (if fitMul a b = true then _ else _) = _
  rw [if_pos (by unfold fitMul; rw [h, Bool.or_true])]
theorem o_mulL {a : Int} (b : Int) (h : (decide (-(2 ^ 64) < a) && decide (a < 2 ^ 64)) = true) : mulD (.int a) (.int b) = some (.int (a * b)) := by
  show (if fitMul a b = true then _ else _) = _
  rw [if_pos (by unfold fitMul; rw [h, Bool.true_or])]
def fdivO (a b : Int) : Option Int := if 0 < b ∧ b < 1073741824 then some (a / b) else none
theorem o_fdiv {a b c : Int} (h : fdivO a b = some c) : fdivD (.int a) (.int b) = some (.int c) := by
  unfold fdivO at h; split at h
  · cases h; rename_i q; show (if _ then _ else _) = _; rw [if_pos q]
  · cases h
theorem fdivO_eq {a b : Int} (h : 0 < b ∧ b < 1073741824) : fdivO a b = some (a / b) := by unfold fdivO; rw [if_pos h]
theorem o_fdivR (a : Int) {b : Int} (h : 0 < b ∧ b < 1073741824) : fdivD (.int a) (.int b) = some (.int (a / b)) := by
  show (if 0 < b ∧ b < 1073741824 then _ else _) = _; rw [if_pos h]
def modO (a b : Int) : Option Int := if 0 < b then some (a % b) else none
theorem o_mod {a b c : Int} (h : modO a b = some c) : modD (.int a) (.int b) = some (.int c) := by
  unfold modO at h; split at h
  · cases h; rename_i q; show (if _ then _ else _) = _; rw [if_pos q]
  · cases h
theorem modO_eq {a b : Int} (h : 0 < b) : modO a b = some (a % b) := by unfold modO; rw [if_pos h]
theorem o_modR (a : Int) {b : Int} (h : 0 < b) : modD (.int a) (.int b) = some (.int (a % b)) := by
  show (if 0 < b then _ else _) = _; rw [if_pos h]
theorem o_powC {a b c : Int} (h : powD (.int a) (.int b) = some (.int c)) : powD (.int a) (.int b) = some (.int c) := h
theorem pow_lit (a : Int) (n : Nat) (h : n ≤ 1000000 ∧ a.natAbs < 2 ^ 64) : powD (.int a) (.int (n : Int)) = some (.int (a ^ n)) := by
  show (if (0 : Int) ≤ (n : Int) ∧ (n : Int) ≤ 1000000 ∧ a.natAbs < 2 ^ 64 then some (D.int (a ^ (n : Int).toNat)) else none) = _
  rw [if_pos ⟨by omega, by omega, h.2⟩]; rfl
theorem o_lt (a b : Int) : ltD (.int a) (.int b) = some (.bl (decide (a < b))) := nr rfl
theorem o_le (a b : Int) : leD (.int a) (.int b) = some (.bl (decide (a ≤ b))) := nr rfl
theorem o_gt (a b : Int) : gtD (.int a) (.int b) = some (.bl (decide (b < a))) := nr rfl
theorem o_ge (a b : Int) : geD (.int a) (.int b) = some (.bl (decide (b ≤ a))) := nr rfl
/-- of dynamic values -/
theorem dyB {o : Option D} {b : Bool} (h : o.bind asB = some b) : o = some (.bl b) := by
  cases o with
  | none => cases h
  | some d => cases d <;> simp [asB] at h; rw [h]
def asI : D → Option Int
  | .int i => some i
  | _ => none
theorem dyI {o : Option D} {b : Int} (h : o.bind asI = some b) : o = some (.int b) := by
  cases o with
  | none => cases h
  | some d => cases d <;> simp [asI] at h; rw [h]
@[simp] theorem asI_int (i : Int) : asI (.int i) = some i := nr rfl
/-! ### is None -/
theorem o_isO {e : α → D} (h : ∀ x, isD (e x) .non = some (.bl false)) (o : Option α) : isD (eO e o) .non = some (.bl o.isNone) := by
  cases o with
  | none => rfl
  | some x => exact h x
theorem o_isnO {e : α → D} (h : ∀ x, isD (e x) .non = some (.bl false)) (o : Option α) : isnD (eO e o) .non = some (.bl o.isSome) := by
  cases o with
  | none => rfl
  | some x =>
    have := h x
    show isnD (e x) .non = _
    cases q : e x <;> rw [q] at this <;> first | rfl | cases this | (rename_i b s; cases b <;> first | rfl | cases this)
/-! ### items, lengths -/
theorem atI_map {e : α → D} (xs : List α) (i : Int) : L2.atI (xs.map e) i = (L2.atI xs i).map e := by
  unfold L2.atI
  rw [List.length_map]
  cases L2.ixN xs.length i with
  | none => rfl
  | some k => simp
theorem o_ixL {e : α → D} {xs : List α} {i : Int} {v : α} (h : L2.atI xs i = some v) : idxD (eL e xs) (.int i) = some (e v) := by
  show (items (eL e xs)).bind (fun xs => L2.atI xs i) = _
  simp only [eL, items, Option.bind_some, atI_map, h]; rfl
theorem o_ixT {e : α → D} {xs : List α} {i : Int} {v : α} (h : L2.atI xs i = some v) : idxD (eT e xs) (.int i) = some (e v) := by
  show (items (eT e xs)).bind (fun xs => L2.atI xs i) = _
  simp only [eT, items, Option.bind_some, atI_map, h]; rfl
theorem o_ixZ {e : α → D} {xs : List α} {i : Int} {v : α} (h : L2.atI xs i = some v) : idxD (eZ e xs) (.int i) = some (e v) := by
  show (items (eZ e xs)).bind (fun xs => L2.atI xs i) = _
  simp only [eZ, items, Option.bind_some, atI_map, h]; rfl
theorem o_20 {e : α → D} {f : β → D} (x : α × β) : idxD (e2 e f x) (.int 0) = some (e x.1) := nr rfl
theorem o_21 {e : α → D} {f : β → D} (x : α × β) : idxD (e2 e f x) (.int 1) = some (f x.2) := nr rfl
theorem o_2m1 {e : α → D} {f : β → D} (x : α × β) : idxD (e2 e f x) (.int (-1)) = some (f x.2) := nr rfl
theorem o_10 {e : α → D} (x : α) : idxD (e1 e x) (.int 0) = some (e x) := nr rfl
theorem o_30 {e : α → D} {f : β → D} {g : γ → D} (x : α × β × γ) : idxD (e3 e f g x) (.int 0) = some (e x.1) := nr rfl
theorem o_31 {e : α → D} {f : β → D} {g : γ → D} (x : α × β × γ) : idxD (e3 e f g x) (.int 1) = some (f x.2.1) := nr rfl
theorem o_32 {e : α → D} {f : β → D} {g : γ → D} (x : α × β × γ) : idxD (e3 e f g x) (.int 2) = some (g x.2.2) := nr rfl
/-- one sign of a text -/
def chO (z : Str) (i : Int) : Option Str := if z.length ≤ sizeLine then (L2.atI z.cps.toList i).map fun c => ⟨#[c]⟩ else none
theorem o_ixS {z : Str} {i : Int} {v : Str} (h : chO z i = some v) : idxD (.str z) (.int i) = some (.str v) := by
  show (if z.length ≤ sizeLine then (L2.atI z.cps.toList i).map fun c => D.str ⟨#[c]⟩ else none) = _
  unfold chO at h
  split at h
  · rename_i c; rw [if_pos c]
    cases q : L2.atI z.cps.toList i with
    | none => rw [q] at h; cases h
    | some c => rw [q] at h; cases h; rfl
  · cases h
theorem o_lenL {e : α → D} (xs : List α) : lenF [eL e xs] = some (.int (xs.length : Int)) := by simp [lenF, lenB, eL, items]
theorem o_lenT {e : α → D} (xs : List α) : lenF [eT e xs] = some (.int (xs.length : Int)) := by simp [lenF, lenB, eT, items]
theorem o_lenZ {e : α → D} (xs : List α) : lenF [eZ e xs] = some (.int (xs.length : Int)) := by simp [lenF, lenB, eZ, items]
def slenO (z : Str) : Option Int := if z.length ≤ sizeLine then some (z.length : Int) else none
theorem o_lenS {z : Str} {n : Int} (h : slenO z = some n) : lenF [.str z] = some (.int n) := by
  unfold slenO at h
  split at h
  · rename_i c; cases h
    show (if z.length ≤ sizeLine then some z.length else none).map (fun (n : Nat) => D.int (n : Int)) = _
    rw [if_pos c]; rfl
  · cases h
theorem o_len2 {e : α → D} {f : β → D} (x : α × β) : lenF [e2 e f x] = some (.int 2) := nr rfl
theorem o_len3 {e : α → D} {f : β → D} {g : γ → D} (x : α × β × γ) : lenF [e3 e f g x] = some (.int 3) := nr rfl
/-! ### + of sequences -/
theorem o_addL {e : α → D} {xs ys zs : List α} (h : extO xs ys = some zs) : addD (eL e xs) (eL e ys) = some (eL e zs) := by
  unfold extO at h; split at h
  · cases h; rename_i c; simp [addD, eL, c]
  · cases h
theorem o_addT {e : α → D} {xs ys zs : List α} (h : extO xs ys = some zs) : addD (eT e xs) (eT e ys) = some (eT e zs) := by
  unfold extO at h; split at h
  · cases h; rename_i c; simp [addD, eT, c]
  · cases h
theorem extO_eq {xs ys : List α} (h : xs.length + ys.length ≤ sizeLine) : extO xs ys = some (xs ++ ys) := by unfold extO; rw [if_pos h]
theorem appO_eq {xs : List α} {x : α} (h : xs.length < sizeLine) : appO xs x = some (xs ++ [x]) := by unfold appO; rw [if_pos h]
def catS (a b : Str) : Option Str := if a.length + b.length ≤ sizeLine then some (a ++ b) else none
theorem o_addS {a b c : Str} (h : catS a b = some c) : addD (.str a) (.str b) = some (.str c) := by
  unfold catS at h; split at h
  · cases h; rename_i q; simp [addD, q]
  · cases h
def repO (e : α → D) (xs : List α) (k : Int) : Option (List α) := if -(2 ^ 63) ≤ k ∧ k < 2 ^ 63 ∧ xs.length * k.toNat ≤ sizeLine ∧ immAll (xs.map e) = true then some (List.replicate k.toNat xs).flatten else none
theorem o_rep {e : α → D} {xs ys : List α} {k : Int} (h : repO e xs k = some ys) : mulD (eL e xs) (.int k) = some (eL e ys) := by
  unfold repO at h; split at h
  · cases h; rename_i c
    show (if -(2 ^ 63) ≤ k ∧ k < 2 ^ 63 ∧ (xs.map e).length * k.toNat ≤ sizeLine ∧ immAll (xs.map e) = true then _ else _) = _
    rw [List.length_map, if_pos c]
    simp [eL, List.map_flatten, List.map_replicate]
  · cases h
/-! ### slices, order reversed -/
def cutL (xs : List α) (lo hi : Option Int) : List α := (xs.drop (HT.sIx xs.length 0 lo)).take (HT.sIx xs.length xs.length hi - HT.sIx xs.length 0 lo)
theorem cut_map {e : α → D} (xs : List α) (lo hi : Option Int) : DL.cutD (xs.map e) lo hi = (cutL xs lo hi).map e := by
  unfold DL.cutD cutL; rw [List.length_map, List.map_take, List.map_drop]
theorem o_slL {e : α → D} (xs : List α) (lo hi : Option Int) : sliceD (eL e xs) lo hi = some (eL e (cutL xs lo hi)) := by
  show some (D.lst (DL.cutD _ lo hi)) = _; rw [cut_map]; rfl
theorem o_slZ {e : α → D} (xs : List α) (lo hi : Option Int) : sliceD (eZ e xs) lo hi = some (eL e (cutL xs lo hi)) := by
  show some (D.lst (DL.cutD _ lo hi)) = _; rw [cut_map]; rfl
theorem o_slT {e : α → D} (xs : List α) (lo hi : Option Int) : sliceD (eT e xs) lo hi = some (eT e (cutL xs lo hi)) := by
  show some (D.tup (DL.cutD _ lo hi)) = _; rw [cut_map]; rfl
theorem o_revL {e : α → D} (xs : List α) : revD (eL e xs) = some (eL e xs.reverse) := by simp [revD, eL]
theorem o_revT {e : α → D} (xs : List α) : revD (eT e xs) = some (eT e xs.reverse) := by simp [revD, eT]
theorem o_rev2 {e : α → D} (x : α × α) : revD (e2 e e x) = some (e2 e e (x.2, x.1)) := nr rfl
/-! ### calls of built-ins -/
theorem o_int (i : Int) : intF [.int i] = some (.int i) := nr rfl
theorem o_intB (b : Bool) : intF [.bl b] = some (.int (if b = true then 1 else 0)) := nr rfl
theorem o_abs (i : Int) : absF [.int i] = some (.int (i.natAbs : Int)) := by
  show some (D.int (if i < 0 then -i else i)) = _
  congr 2; split <;> omega
def min2 (a b : Int) : Int := if b < a then b else a
def max2 (a b : Int) : Int := if b > a then b else a
@[simp] theorem min2_eq (a b : Int) : min2 a b = min a b := by unfold min2; split <;> omega
@[simp] theorem max2_eq (a b : Int) : max2 a b = max a b := by unfold max2; split <;> omega
theorem o_min2 (a b : Int) : minF [.int a, .int b] = some (.int (min2 a b)) := nr rfl
theorem o_max2 (a b : Int) : maxF [.int a, .int b] = some (.int (max2 a b)) := nr rfl
@[simp] theorem intsD_map (xs : List Int) : intsD (xs.map D.int) = some xs := by
  induction xs with
  | nil => rfl
  | cons x xs ih => simp [intsD, ih]
@[simp] theorem blsD_map (xs : List Bool) : blsD (xs.map D.bl) = some xs := by
  induction xs with
  | nil => rfl
  | cons x xs ih => simp [blsD, ih]
theorem o_minL {xs : List Int} {m : Int} (h : minL xs = some m) : minF [eL .int xs] = some (.int m) := by simp [minF, eL, h]
theorem o_maxL {xs : List Int} {m : Int} (h : maxL xs = some m) : maxF [eL .int xs] = some (.int m) := by simp [maxF, eL, h]
theorem o_sum (xs : List Int) : sumF [eL .int xs] = some (.int xs.sum) := by simp [sumF, eL]
theorem o_any (xs : List Bool) : anyF [eL .bl xs] = some (.bl (xs.any fun b => b)) := by simp [anyF, eL]
theorem o_all (xs : List Bool) : allF [eL .bl xs] = some (.bl (xs.all fun b => b)) := by simp [allF, eL]
theorem o_listL {e : α → D} (xs : List α) : listF [eL e xs] = some (eL e xs) := nr rfl
theorem o_listT {e : α → D} (xs : List α) : listF [eT e xs] = some (eL e xs) := nr rfl
theorem o_listZ {e : α → D} (xs : List α) : listF [eZ e xs] = some (eL e xs) := nr rfl
theorem o_list2 {e : α → D} (x : α × α) : listF [e2 e e x] = some (eL e [x.1, x.2]) := nr rfl
theorem o_list1 {e : α → D} (x : α) : listF [e1 e x] = some (eL e [x]) := nr rfl
theorem o_list0 {e : α → D} (x : Unit) : listF [e0 x] = some (eL e ([] : List α)) := nr rfl
theorem o_tupL {e : α → D} (xs : List α) : tupleF [eL e xs] = some (eT e xs) := nr rfl
theorem o_tupT {e : α → D} (xs : List α) : tupleF [eT e xs] = some (eT e xs) := nr rfl
theorem o_tupZ {e : α → D} (xs : List α) : tupleF [eZ e xs] = some (eT e xs) := nr rfl
/-- sorted -/
def sortO (e : α → D) (xs : List α) : Option (List α) := if sortOk (xs.map e) = true then some (isort (fun a b => leS (e a) (e b)) xs) else none
theorem insD_mapE {e : α → D} (a : α) (l : List α) : insD leS (e a) (l.map e) = (insD (fun a b => leS (e a) (e b)) a l).map e := by
  induction l with
  | nil => rfl
  | cons b l ih =>
    simp only [List.map_cons, insD]
    split
    · rfl
    · rw [ih]; rfl
theorem isort_mapE {e : α → D} (l : List α) : isort leS (l.map e) = (isort (fun a b => leS (e a) (e b)) l).map e := by
  induction l with
  | nil => rfl
  | cons a l ih => simp only [List.map_cons, isort, ih, insD_mapE]
theorem o_sort {e : α → D} {xs ys : List α} {d : D} (h : sortO e xs = some ys) (hd : items d = some (xs.map e)) : sortF [d] = some (eL e ys) := by
  unfold sortO at h
  split at h
  · rename_i c; cases h
    show (items d).bind _ = _
    rw [hd]; simp only [Option.bind_some]; rw [if_pos c, isort_mapE]; rfl
  · cases h
/-! ### ranges -/
def rgL (lo : Int) (n : Nat) (c : Int) : List Int := (List.range n).map fun (k : Nat) => lo + (k : Int) * c
theorem rgL_map (lo : Int) (n : Nat) (c : Int) : rngD lo n c = (rgL lo n c).map D.int := by
  unfold rngD rgL; rw [List.map_map]; rfl
@[irreducible] def rgO1 (j : Int) : Option (List Int) := if small62 j = true then some (rgL 0 j.toNat 1) else none
@[irreducible] def rgO2 (i j : Int) : Option (List Int) := if small62 i = true ∧ small62 j = true then some (rgL i (j - i).toNat 1) else none
@[irreducible] def rgO3 (i j c : Int) : Option (List Int) := if small62 i = true ∧ small62 j = true then (if c = -1 then some (rgL i (i - j).toNat (-1)) else if c = 2 then some (rgL i ((j - i + 1) / 2).toNat 2) else none) else none
theorem o_rg1 {j : Int} {v : List Int} (h : rgO1 j = some v) : rangeF1 [.int j] = some (v.map D.int) := by
  unfold rgO1 at h; split at h
  · cases h; rename_i c; show (if _ then _ else _) = _; rw [if_pos c, rgL_map]
  · cases h
theorem o_rg2 {i j : Int} {v : List Int} (h : rgO2 i j = some v) : rangeF2 [.int i, .int j] = some (v.map D.int) := by
  unfold rgO2 at h; split at h
  · cases h; rename_i c; show (if _ then _ else _) = _; rw [if_pos c, rgL_map]
  · cases h
theorem o_rg3 {i j c : Int} {v : List Int} (h : rgO3 i j c = some v) : rangeF3 [.int i, .int j, .int c] = some (v.map D.int) := by
  unfold rgO3 at h; split at h
  · rename_i q; show (if _ then _ else _) = _; rw [if_pos q]
    split at h
    · rename_i q1; rw [if_pos q1]; cases h; rw [rgL_map]
    · rename_i q1; rw [if_neg q1]
      split at h
      · rename_i q2; rw [if_pos q2]; cases h; rw [rgL_map]
      · cases h
  · cases h
@[irreducible] def lrgO1 (j : Int) : Option (List Int) := if okRg 0 j = true then some (rgL 0 j.toNat 1) else none
@[irreducible] def lrgO2 (i j : Int) : Option (List Int) := if okRg i j = true then some (rgL i (j - i).toNat 1) else none
theorem o_lrg1 {j : Int} {v : List Int} (h : lrgO1 j = some v) : lrgF1 [.int j] = some (eL D.int v) := by
  unfold lrgO1 at h; split at h
  · cases h; rename_i c; show (if _ then _ else _) = _; rw [if_pos c, rgL_map]; rfl
  · cases h
theorem o_lrg2 {i j : Int} {v : List Int} (h : lrgO2 i j = some v) : lrgF2 [.int i, .int j] = some (eL D.int v) := by
  unfold lrgO2 at h; split at h
  · cases h; rename_i c; show (if _ then _ else _) = _; rw [if_pos c, rgL_map]; rfl
  · cases h
theorem o_trg1 {j : Int} {v : List Int} (h : lrgO1 j = some v) : trgF1 [.int j] = some (eT D.int v) := by
  unfold lrgO1 at h; split at h
  · cases h; rename_i c; show (if _ then _ else _) = _; rw [if_pos c, rgL_map]; rfl
  · cases h
theorem o_trg2 {i j : Int} {v : List Int} (h : lrgO2 i j = some v) : trgF2 [.int i, .int j] = some (eT D.int v) := by
  unfold lrgO2 at h; split at h
  · cases h; rename_i c; show (if _ then _ else _) = _; rw [if_pos c, rgL_map]; rfl
  · cases h
/-! ### isinstance -/
def isO (d : D) (n : String) : Option Bool := isiB d n
theorem o_isi {d : D} {n : String} {b : Bool} (h : isO d n = some b) : isiF [d, .ty n] = some (.bl b) := by
  show (isiB d n).map D.bl = _
  rw [show isiB d n = some b from h]; rfl
/-! ### walked -/
theorem w_L {e : α → D} (xs : List α) : iterD (eL e xs) = some (xs.map e) := nr rfl
theorem w_T {e : α → D} (xs : List α) : iterD (eT e xs) = some (xs.map e) := nr rfl
theorem w_Z {e : α → D} (xs : List α) : iterD (eZ e xs) = some (xs.map e) := nr rfl
theorem w_2 {e : α → D} (x : α × α) : iterD (e2 e e x) = some ([x.1, x.2].map e) := nr rfl
theorem w_3 {e : α → D} (x : α × α × α) : iterD (e3 e e e x) = some ([x.1, x.2.1, x.2.2].map e) := nr rfl
def chs (z : Str) : List Str := z.cps.toList.map fun c => ⟨#[c]⟩
theorem w_S (z : Str) : iterD (.str z) = some ((chs z).map D.str) := by
  show some _ = _; unfold chs; rw [List.map_map]; rfl
/-! ### an item of two -/
def un2 (d : D) : Option (D × D) := match items d with
  | some [a, b] => some (a, b)
  | _ => none
theorem un2_some {d : D} {v : D × D} (h : un2 d = some v) : items d = some [v.1, v.2] := by
  unfold un2 at h; split at h
  · rename_i a b q; cases h; exact q
  · cases h
end TL
set_option Elab.async false
set_option linter.all false
set_option maxRecDepth 100000
set_option maxHeartbeats 2000000
namespace TL
open PySem PySem.Spec PyProof.Rows L2 DL
variable {α β γ δ σ τ ρ σ1 : Type}
/-! ## further facts -/
section
variable {env : En} {f g : En → R D} {ga : En → R (List D)} {x y z d d' : D} {b : Bool}
theorem p_asB (h : asB d = some b) (q : f env = .ok d) : f env = .ok (.bl b) := by
  cases d <;> simp [asB] at h; rw [q, h]
theorem p_asI {i : Int} (h : asI d = some i) (q : f env = .ok d) : f env = .ok (.int i) := by
  cases d <;> simp [asI] at h; rw [q, h]
theorem p_coL (q : d = d') (h : ga env = .ok [d]) : ga env = .ok [d'] := by rw [← q]; exact h
def isNon : D → Bool
  | .non => true
  | .io none _ => true
  | _ => false
@[simp] theorem isNon_non : isNon .non = true := nr rfl
theorem o_isD (d : D) : isD d .non = some (.bl (isNon d)) := by
  cases d <;> first | rfl | (rename_i b s; cases b <;> rfl)
theorem o_isV (h : isD d .non = some (.bl false)) : isD d .non = some (.bl false) := h
theorem o_isN (u : Unit) : isD (eN u) .non = some (.bl true) := nr rfl
theorem isn_of (h : isD d .non = some (.bl b)) : isnD d .non = some (.bl (!b)) := by
  cases d <;> simp only [isD, Option.some.injEq, D.bl.injEq] at h <;> subst h <;> first | rfl | (rename_i b s; cases b <;> rfl)
theorem o_ltT (xs ys : List Int) : ltD (eT .int xs) (eT .int ys) = some (.bl (HT.lexLt xs ys)) := by simp [ltD, eT]
theorem o_inB (h : inB x y = some b) : inD x y = some (.bl b) := by simp [inD, h]
theorem o_ninB (h : inB x y = some b) : ninD x y = some (.bl (!b)) := by simp [ninD, h]
theorem o_addP {xs ys : List D} (h : Nat.ble (xs.length + ys.length) 1000 = true) : addD (.tup xs) (.tup ys) = some (.tup (xs ++ ys)) := by
  have : xs.length + ys.length ≤ sizeLine := small_line (by have := Nat.le_of_ble_eq_true h; omega)
  simp [addD, this]
def cutSO (z : Str) (lo hi : Option Int) : Option Str := if z.length ≤ sizeLine then some (cutS z lo hi) else none
theorem o_slS {z v : Str} {lo hi : Option Int} (h : cutSO z lo hi = some v) : sliceD (.str z) lo hi = some (.str v) := by
  unfold cutSO at h; split at h
  · rename_i c; cases h; show (if z.length ≤ sizeLine then _ else _) = _; rw [if_pos c]
  · cases h
theorem o_lenD {n : Nat} (h : lenB d = some n) : lenF [d] = some (.int (n : Int)) := by simp [lenF, h]
theorem o_sortL {e : α → D} {xs ys : List α} (h : sortO e xs = some ys) : sortF [eL e xs] = some (eL e ys) := o_sort h rfl
theorem o_sortT {e : α → D} {xs ys : List α} (h : sortO e xs = some ys) : sortF [eT e xs] = some (eL e ys) := o_sort h rfl
theorem o_sortZ {e : α → D} {xs ys : List α} (h : sortO e xs = some ys) : sortF [eZ e xs] = some (eL e ys) := o_sort h rfl
theorem im_co (q : d = d') (h : imm d = true) : imm d' = true := q ▸ h
def rmap (c : α → β) : R α → R β
  | .ok x => .ok (c x)
  | .ex s => .ex s
  | .no => .no
@[simp] theorem rmap_ok (c : α → β) (x : α) : rmap c (.ok x) = .ok (c x) := nr rfl
@[simp] theorem rmap_ex (c : α → β) (x : Str) : rmap c (.ex x) = .ex x := nr rfl
theorem rg_co {e : α → D} {e' : β → D} {c : α → β} {r : R D} {t : R α} (h : ∀ x, e x = e' (c x)) (q : RG e r t) : RG e' r (rmap c t) := by
  cases t with
  | ok x => show r = .ok (e' (c x)); rw [← h]; exact q
  | ex s => exact q
  | no => trivial
/-! decoded values -/
def asS : D → Option Str
  | .str s => some s
  | _ => none
@[simp] theorem asS_str (s : Str) : asS (.str s) = some s := nr rfl
def decAll (f : D → Option α) : List D → Option (List α)
  | [] => some []
  | d :: ds => (f d).bind fun x => (decAll f ds).bind fun xs => some (x :: xs)
def decL (f : D → Option α) : D → Option (List α)
  | .lst ds => decAll f ds
  | _ => none
def decT (f : D → Option α) : D → Option (List α)
  | .tup ds => decAll f ds
  | _ => none
def dec1 (f : D → Option α) : D → Option α
  | .tup [a] => f a
  | _ => none
def dec2 (f : D → Option α) (g : D → Option β) : D → Option (α × β)
  | .tup [a, b] => (f a).bind fun x => (g b).bind fun y => some (x, y)
  | _ => none
def dec3 (f : D → Option α) (g : D → Option β) (h : D → Option γ) : D → Option (α × β × γ)
  | .tup [a, b, c] => (f a).bind fun x => (g b).bind fun y => (h c).bind fun z => some (x, y, z)
  | _ => none
def decO (f : D → Option α) : D → Option (Option α)
  | .non => some none
  | d => (f d).map some
def Dc (e : α → D) (f : D → Option α) : Prop := ∀ d x, f d = some x → d = e x
theorem dc_I : Dc D.int asI := fun d x h => by cases d <;> simp [asI] at h; rw [h]
theorem dc_B : Dc D.bl asB := fun d x h => by cases d <;> simp [asB] at h; rw [h]
theorem dc_S : Dc D.str asS := fun d x h => by cases d <;> simp [asS] at h; rw [h]
theorem decAll_map {e : α → D} {f : D → Option α} (h : Dc e f) : ∀ (ds : List D) (xs : List α), decAll f ds = some xs → ds = xs.map e
  | [], xs, q => by cases q; rfl
  | d :: ds, xs, q => by
    obtain ⟨x, h1, q⟩ := ob q
    obtain ⟨ys, h2, q⟩ := ob q
    cases q
    rw [List.map_cons, ← h d x h1, ← decAll_map h ds ys h2]
theorem dc_L {e : α → D} {f : D → Option α} (h : Dc e f) : Dc (eL e) (decL f) := fun d xs q => by
  cases d <;> simp only [decL, reduceCtorEq] at q
  rw [decAll_map h _ _ q]; rfl
theorem dc_T {e : α → D} {f : D → Option α} (h : Dc e f) : Dc (eT e) (decT f) := fun d xs q => by
  cases d <;> simp only [decT, reduceCtorEq] at q
  rw [decAll_map h _ _ q]; rfl
theorem dc_1 {e : α → D} {f : D → Option α} (h : Dc e f) : Dc (e1 e) (dec1 f) := fun d x q => by
  unfold dec1 at q; split at q
  · rw [h _ _ q]; rfl
  · cases q
theorem dc_2 {e : α → D} {f : D → Option α} {e' : β → D} {g : D → Option β} (h : Dc e f) (h' : Dc e' g) : Dc (e2 e e') (dec2 f g) := fun d x q => by
  unfold dec2 at q; split at q
  · obtain ⟨a, h1, q⟩ := ob q
    obtain ⟨b, h2, q⟩ := ob q
    cases q; rw [h _ _ h1, h' _ _ h2]; rfl
  · cases q
theorem dc_3 {e : α → D} {f : D → Option α} {e' : β → D} {g : D → Option β} {e'' : γ → D} {k : D → Option γ} (h : Dc e f) (h' : Dc e' g) (h'' : Dc e'' k) : Dc (e3 e e' e'') (dec3 f g k) := fun d x q => by
  unfold dec3 at q; split at q
  · obtain ⟨a, h1, q⟩ := ob q
    obtain ⟨b, h2, q⟩ := ob q
    obtain ⟨c, h3, q⟩ := ob q
    cases q; rw [h _ _ h1, h' _ _ h2, h'' _ _ h3]; rfl
  · cases q
/-! unpacked -/
theorem put_un2 {i j : Nat} {v : D × D} (h : un2 d = some v) (hi : Nat.blt i env.length = true := by rfl) (hj : Nat.blt j env.length = true := by rfl) : put (.tp [.nm i, .nm j]) d env = some ((env.set i (.sh v.1)).set j (.sh v.2)) := by
  simp only [put, un2_some h, puts]
  rw [if_pos (lt_of hi)]
  simp only [List.length_set]
  rw [if_pos (lt_of hj)]
def two (xs : List α) : Option (α × α) := match xs with
  | [a, b] => some (a, b)
  | _ => none
@[simp] theorem two_eq (a b : α) : two [a, b] = some (a, b) := nr rfl
theorem put_twoL {e : α → D} {xs : List α} {i j : Nat} {v : α × α} (h : two xs = some v) (hi : Nat.blt i env.length = true := by rfl) (hj : Nat.blt j env.length = true := by rfl) : put (.tp [.nm i, .nm j]) (eL e xs) env = some ((env.set i (.sh (e v.1))).set j (.sh (e v.2))) := by
  unfold two at h; split at h
  · cases h
    simp only [eL, List.map_cons, List.map_nil, put, items, puts]
    rw [if_pos (lt_of hi)]
    simp only [List.length_set]
    rw [if_pos (lt_of hj)]
  · cases h
theorem put_twoT {e : α → D} {xs : List α} {i j : Nat} {v : α × α} (h : two xs = some v) (hi : Nat.blt i env.length = true := by rfl) (hj : Nat.blt j env.length = true := by rfl) : put (.tp [.nm i, .nm j]) (eT e xs) env = some ((env.set i (.sh (e v.1))).set j (.sh (e v.2))) := by
  unfold two at h; split at h
  · cases h
    simp only [eT, List.map_cons, List.map_nil, put, items, puts]
    rw [if_pos (lt_of hi)]
    simp only [List.length_set]
    rw [if_pos (lt_of hj)]
  · cases h
end
/-! ## further statements -/
section
variable {pl pm : En → En} {ml : τ → En} {mk : σ → En} {er : ρ → D} {env env' : En} {f fk : En → R D} {ga : En → R (List D)} {F G A : En → Fl} {t u : En → R Bool} {i j l : Nat} {T : Tg} {b : Bool} {c : Str} {r : Fl} {d d1 d2 d3 : D}
theorem rs_retVc {x : ρ} (q : d = er x) (h : env[i]? = some (.ow d)) : RS pl ml pm mk er (sRetV i env) (.rt x) := rs_retV (by rw [← q]; exact h)
theorem rs_retSc {x : ρ} (q : d = er x) (hm : imm d = true) (h : env[i]? = some (.sh d)) : RS pl ml pm mk er (sRetV i env) (.rt x) := rs_retS (by rw [← q]; exact hm) (by rw [← q]; exact h)
theorem rs_setIm (e : α → D) {x : α} {k : α → TF τ σ ρ} (hm : imm (e x) = true) (hf : f env = .ok (e x)) (h : ∀ y, RS pl ml pm mk er (G (env.set i (.ow (e y)))) (k y)) (hi : Nat.blt i env.length = true := by rfl) : RS pl ml pm mk er (sSeq (sSetI i f) G env) (tlet x k) :=
  seq_nx (by rw [sSetI_eq, hf, onE_ok, if_pos ⟨hm, lt_of hi⟩]) (h x)
def setO (xs : List α) (k : Int) (x : α) : Option (List α) := (L2.ixN xs.length k).map fun m => xs.set m x
theorem immAll_map {e : α → D} (h : ∀ x, imm (e x) = true) (xs : List α) : immAll (xs.map e) = true := by
  rw [immAll_all, List.all_eq_true]; intro d hd; obtain ⟨x, _, rfl⟩ := List.mem_map.mp hd; exact h x
theorem rs_setAt (e : α → D) (hm : ∀ v, imm (e v) = true) {xs : List α} {x : α} {n : Int} {k : List α → TF τ σ ρ} (hl : env[j]? = some (.ow (eL e xs))) (hf : f env = .ok (e x)) (hk : fk env = .ok (.int n)) (h : ∀ ys, RS pl ml pm mk er (G (env.set j (.ow (eL e ys)))) (k ys)) : RS pl ml pm mk er (sSeq (sSetAt j fk f) G env) (obind (setO xs n x) k) := by
  unfold setO
  cases q : L2.ixN xs.length n with
  | none => trivial
  | some m =>
    refine seq_nx ?_ (h _)
    unfold sSetAt; rw [hf, onE_ok]
    unfold onList; rw [hl]; simp only [eL]; rw [hk, onE_ok]
    unfold setAt; simp only [List.length_map, q]
    rw [if_pos ⟨immAll_map hm xs, hm x⟩, List.map_set]
def popO (xs : List α) : Option (List α × α) := match xs[xs.length - 1]? with
  | some x => some (xs.take (xs.length - 1), x)
  | none => none
theorem rs_pop (e : α → D) (hm : ∀ v, imm (e v) = true) {xs : List α} {k : List α → α → TF τ σ ρ} (hl : env[j]? = some (.ow (eL e xs))) (hij : Nat.beq i j = false) (h : ∀ ys y, RS pl ml pm mk er (G ((env.set j (.ow (eL e ys))).set i (.ow (e y)))) (k ys y)) (hi : Nat.blt i env.length = true := by rfl) : RS pl ml pm mk er (sSeq (sPop i j) G env) (obind (popO xs) fun p => tlet p.1 fun a => tlet p.2 fun b => k a b) := by
  unfold popO
  cases q : xs[xs.length - 1]? with
  | none => trivial
  | some x =>
    refine seq_nx ?_ (h _ _)
    unfold sPop onList; rw [hl]; simp only [eL]
    unfold popTo; simp only [List.length_map, List.getElem?_map, q, Option.map_some]
    rw [if_pos ⟨immAll_map hm xs, lt_of hi, fun c => by subst c; simp at hij⟩, List.map_take]
theorem rs_putX {t : TF τ σ ρ} (hf : f env = .ok d) (hp : put T d env = some env') (h : RS pl ml pm mk er (G env') t) : RS pl ml pm mk er (sSeq (sPutF T f) G env) t :=
  seq_nx (by rw [sPutF_eq, hf, onE_ok]; unfold sPut; rw [hp]) h
theorem rs_putXS {t : TF τ σ ρ} (hf : f (env.map hideS) = .ok d) (hp : put T d env = some env') (h : RS pl ml pm mk er (G env') t) : RS pl ml pm mk er (sSeq (sPutS T f) G env) t :=
  seq_nx (by rw [sPutS_eq, hf, onE_ok]; unfold sPut; rw [hp]) h
theorem rs_pars2 (e : α → D) (e' : β → D) {x : α} {y : β} {k : α → β → TF τ σ ρ} (q1 : d1 = e x) (q2 : d2 = e' y) (hg : ga env = .ok [d1, d2]) (h : ∀ x y, RS pl ml pm mk er (G ((env.set i (.ow (e x))).set j (.ow (e' y)))) (k x y)) (hi : Nat.blt i env.length = true := by rfl) (hj : Nat.blt j env.length = true := by rfl) :
    RS pl ml pm mk er (sSeq (sPars [i, j] ga) G env) (tlet x fun a => tlet y fun b => k a b) :=
  seq_nx (by unfold sPars; rw [hg, onE_ok, q1, q2]; simp only [setsO]; rw [if_pos (lt_of hi)]; simp only [List.length_set]; rw [if_pos (lt_of hj)]) (h x y)
theorem rs_pars3 (e : α → D) (e' : β → D) (e'' : γ → D) {x : α} {y : β} {z : γ} {k : α → β → γ → TF τ σ ρ} (q1 : d1 = e x) (q2 : d2 = e' y) (q3 : d3 = e'' z) (hg : ga env = .ok [d1, d2, d3]) (h : ∀ x y z, RS pl ml pm mk er (G (((env.set i (.ow (e x))).set j (.ow (e' y))).set l (.ow (e'' z)))) (k x y z)) (hi : Nat.blt i env.length = true := by rfl) (hj : Nat.blt j env.length = true := by rfl) (hl : Nat.blt l env.length = true := by rfl) :
    RS pl ml pm mk er (sSeq (sPars [i, j, l] ga) G env) (tlet x fun a => tlet y fun b => tlet z fun c => k a b c) :=
  seq_nx (by unfold sPars; rw [hg, onE_ok, q1, q2, q3]; simp only [setsO]; rw [if_pos (lt_of hi)]; simp only [List.length_set]; rw [if_pos (lt_of hj), if_pos (lt_of hl)]) (h x y z)
/-! ### try -/
/-- statements that change no slot -/
def RX (env : En) (er : ρ → D) (r : Fl) : TF Unit Unit ρ → Prop
  | .nx _ => r = .nx env
  | .rt x => r = .rt (er x)
  | .ex c => r = .ex c env
  | .no => True
  | .bk _ => False
  | .ct _ => False
theorem rx_nil : RX env er (sNil env) (.nx ()) := rfl
theorem rx_last {t : TF Unit Unit ρ} (h : RX env er (sSeq F sNil env) t) : RX env er (F env) t := by
  have e : sSeq F sNil env = F env := by
    rw [sSeq_eq]; cases F env <;> rfl
  rwa [e] at h
theorem rx_ob {a : Option α} {k : α → TF Unit Unit ρ} (h : ∀ v, a = some v → RX env er r (k v)) : RX env er r (obind a k) := by
  cases a with
  | none => trivial
  | some v => exact h v rfl
theorem rx_if {tA tB : TF Unit Unit ρ} (ht : t env = .ok b) (hA : RX env er (F env) tA) (hB : RX env er (G env) tB) : RX env er (sIf t F G env) (if b = true then tA else tB) := by
  rw [sIf_eq, ht, onE_ok]
  cases b with
  | true => exact hA
  | false => exact hB
theorem rx_drop {a : R α} {e : α → D} {k : α → TF Unit Unit ρ} (hf : RG e (f env) a) (h : ∀ y, RX env er (G env) (k y)) : RX env er (sSeq (sDrop f) G env) (rbind a k) := by
  cases a with
  | ok x =>
    show RX env er (sSeq (sDrop f) G env) (k x)
    rw [sSeq_nx (e := env) (by rw [sDrop_eq, show f env = .ok (e x) from hf, onE_ok])]; exact h x
  | ex c =>
    show sSeq (sDrop f) G env = .ex c env
    rw [sSeq_eq, sDrop_eq, show f env = .ex c from hf]; rfl
  | no => trivial
theorem rx_ret {x : ρ} (hf : f env = .ok (er x)) : RX env er (sRet f env) (.rt x) := by
  show sRet f env = .rt (er x)
  rw [sRet_eq, hf]; rfl
theorem rx_retR {a : R ρ} (hf : RG er (f env) a) : RX env er (sRet f env) (rret a) := by
  cases a with
  | ok x => show sRet f env = _; rw [sRet_eq, show f env = .ok (er x) from hf]; rfl
  | ex c => show sRet f env = _; rw [sRet_eq, show f env = .ex c from hf]; rfl
  | no => trivial
def tpickN (c : Str) : TF τ Empty ρ := .ex c
def tpickC (cat : List (Str × Bool)) (t : TF τ Empty ρ) (h : Str → TF τ Empty ρ) (c : Str) : TF τ Empty ρ := match cat.lookup c with
  | some true => t
  | some false => h c
  | none => .no
def ttry (t : TF Unit Unit ρ) (h : Str → TF τ Empty ρ) : TF τ Unit ρ := match t with
  | .nx u => .nx u
  | .rt x => .rt x
  | .ex c => (h c).up
  | _ => .no
@[simp] theorem ttry_nx (u : Unit) (h : Str → TF τ Empty ρ) : ttry (.nx u : TF Unit Unit ρ) h = .nx u := nr rfl
@[simp] theorem ttry_rt (u : ρ) (h : Str → TF τ Empty ρ) : ttry (.rt u : TF Unit Unit ρ) h = .rt u := nr rfl
@[simp] theorem ttry_ex (c : Str) (h : Str → TF τ Empty ρ) : ttry (.ex c : TF Unit Unit ρ) h = (h c).up := nr rfl
def ttry0 (t : TF Unit Unit ρ) (h : Str → TF τ Empty ρ) : TF τ σ ρ := match t with
  | .rt x => .rt x
  | .ex c => (h c).up
  | _ => .no
@[simp] theorem ttry0_rt (u : ρ) (h : Str → TF τ Empty ρ) : (ttry0 (.rt u : TF Unit Unit ρ) h : TF τ σ ρ) = .rt u := nr rfl
@[simp] theorem ttry0_ex (c : Str) (h : Str → TF τ Empty ρ) : (ttry0 (.ex c : TF Unit Unit ρ) h : TF τ σ ρ) = (h c).up := nr rfl
def PickR (pl : En → En) (ml : τ → En) (er : ρ → D) (env : En) (hs : List (List (Str × Bool) × (En → Fl))) (H : Str → TF τ Empty ρ) : Prop := ∀ c, RS pl ml id (fun s : Empty => nomatch s) er (pick hs c env) (H c)
theorem pick_nil : PickR pl ml er env [] tpickN := fun c => ⟨env, rfl⟩
theorem pick_cons {cat : List (Str × Bool)} {hs : List (List (Str × Bool) × (En → Fl))} {t : TF τ Empty ρ} {H : Str → TF τ Empty ρ} (h : RS pl ml id (fun s : Empty => nomatch s) er (G env) t) (hh : PickR pl ml er env hs H) : PickR pl ml er env ((cat, G) :: hs) (tpickC cat t H) := fun c => by
  unfold pick tpickC
  cases cat.lookup c with
  | none => trivial
  | some b => cases b with
    | true => exact h
    | false => exact hh c
theorem rs_tryM {hs : List (List (Str × Bool) × (En → Fl))} {tb : TF Unit Unit ρ} {H : Str → TF τ Empty ρ} {k : Unit → TF τ σ ρ} (hb : RX env er (F env) tb) (hh : PickR pl ml er env hs H) (h : RS pl ml pm mk er (G env) (k ())) : RS pl ml pm mk er (sSeq (sTryM hs F) G env) ((ttry tb H).bind k) := by
  cases tb with
  | nx u => exact seq_nx (e := env) (by unfold sTryM; rw [show F env = .nx env from hb]) h
  | rt x => show sSeq _ G env = _; rw [sSeq_eq]; unfold sTryM; rw [show F env = .rt (er x) from hb]
  | ex c =>
    have e : sTryM hs F env = pick hs c env := by unfold sTryM; rw [show F env = .ex c env from hb]
    have := hh c
    rw [ttry_ex]
    cases q : H c with
    | nx s => exact nomatch s
    | rt x => rw [q] at this; show sSeq _ G env = _; rw [sSeq_eq, e, show pick hs c env = .rt (er x) from this]
    | bk s => rw [q] at this; obtain ⟨e', h1, h2⟩ := this; exact ⟨e', by rw [sSeq_eq, e, h1], h2⟩
    | ct s => rw [q] at this; obtain ⟨e', h1, h2⟩ := this; exact ⟨e', by rw [sSeq_eq, e, h1], h2⟩
    | ex c' => rw [q] at this; obtain ⟨e', h1⟩ := this; exact ⟨e', by rw [sSeq_eq, e, h1]⟩
    | no => trivial
  | no => trivial
  | bk s => exact hb.elim
  | ct s => exact hb.elim
theorem rs_tryM0 {hs : List (List (Str × Bool) × (En → Fl))} {tb : TF Unit Unit ρ} {H : Str → TF τ Empty ρ} (hb : RX env er (F env) tb) (hh : PickR pl ml er env hs H) : RS pl ml pm mk er (sTryM hs F env) (ttry0 tb H : TF τ σ ρ) := by
  cases tb with
  | nx u => trivial
  | rt x => show sTryM hs F env = _; unfold sTryM; rw [show F env = .rt (er x) from hb]
  | ex c =>
    have e : sTryM hs F env = pick hs c env := by unfold sTryM; rw [show F env = .ex c env from hb]
    rw [e, ttry0_ex]
    exact RS.up (hh c)
  | no => trivial
  | bk s => exact hb.elim
  | ct s => exact hb.elim
theorem try_eq {cat : List (Str × Bool)} : sTry cat F G = sTryM [(cat, G)] F := by
  funext env
  unfold sTry sTryM
  cases F env with
  | ex c e =>
    first
      | (simp only [pick]; done)
      | (simp only [pick]
         cases cat.lookup c with
         | none => rfl
         | some b => cases b <;> rfl)
  | _ => rfl
theorem rs_try1 {cat : List (Str × Bool)} {A : En → Fl} {tb : TF Unit Unit ρ} {H : Str → TF τ Empty ρ} {k : Unit → TF τ σ ρ} (hb : RX env er (F env) tb) (hh : PickR pl ml er env [(cat, A)] H) (h : RS pl ml pm mk er (G env) (k ())) : RS pl ml pm mk er (sSeq (sTry cat F A) G env) ((ttry tb H).bind k) := by
  rw [try_eq]; exact rs_tryM hb hh h
theorem rs_try10 {cat : List (Str × Bool)} {A : En → Fl} {tb : TF Unit Unit ρ} {H : Str → TF τ Empty ρ} (hb : RX env er (F env) tb) (hh : PickR pl ml er env [(cat, A)] H) : RS pl ml pm mk er (sTry cat F A env) (ttry0 tb H : TF τ σ ρ) := by
  rw [try_eq]; exact rs_tryM0 hb hh
end
end TL
set_option Elab.async false
set_option linter.all false
set_option maxRecDepth 100000
set_option maxHeartbeats 2000000
namespace TL
open PySem PySem.Spec PyProof.Rows L2 DL
variable {α β γ δ σ τ ρ σ1 : Type}
/-! ### min, max -/
def minI : List Int → Option Int
  | [] => none
  | x :: xs => some (xs.foldl min x)
def maxI : List Int → Option Int
  | [] => none
  | x :: xs => some (xs.foldl max x)
theorem ltS_int (a b : Int) : ltS (.int a) (.int b) = decide (a < b) := by
  have := congrFun (congrFun (PySem.W.dataLe_int (fun (i : Int) => i)) b) a
  unfold ltS
  have h : (!PySem.W.dataLt (.int a) (.int b)) = decide (b ≤ a) := this
  cases q : PySem.W.dataLt (PyData.int a) (PyData.int b) with
  | true => rw [q] at h; simp at h; simp [toPy, q]; omega
  | false => rw [q] at h; simp at h; simp [toPy, q]; omega
theorem better_int (mx : Bool) (a y : Int) : better mx (.int a) (.int y) = .int (if mx = true then max a y else min a y) := by
  unfold better
  cases mx
  · simp only [Bool.false_eq_true, if_false, ltS_int, decide_eq_true_eq]
    split <;> congr 1 <;> omega
  · simp only [if_true, ltS_int, decide_eq_true_eq]
    split <;> congr 1 <;> omega
theorem best_ints (mx : Bool) : ∀ (xs : List Int) (x : Int), (xs.map D.int).foldl (better mx) (.int x) = .int (xs.foldl (fun a y => if mx = true then max a y else min a y) x)
  | [], x => rfl
  | y :: xs, x => by
    simp only [List.map_cons, List.foldl_cons, better_int]
    exact best_ints mx xs _
theorem bestOk_ints (xs : List Int) : bestOk (xs.map D.int) = true := by
  simp only [bestOk, Bool.and_eq_true]
  refine ⟨⟨⟨?_, ?_⟩, ?_⟩, ?_⟩
  · rw [cleanAll_all, List.all_eq_true]; intro d hd; obtain ⟨i, _, rfl⟩ := List.mem_map.mp hd; rfl
  · rw [List.all_eq_true]; intro d hd; obtain ⟨i, _, rfl⟩ := List.mem_map.mp hd
    rw [List.all_eq_true]; intro d hd; obtain ⟨j, _, rfl⟩ := List.mem_map.mp hd
    simp [toPy, PySem.W.alike]
  · rw [List.all_eq_true]; intro d hd; obtain ⟨i, _, rfl⟩ := List.mem_map.mp hd; rfl
  · rw [List.all_eq_true]; intro d hd; obtain ⟨i, _, rfl⟩ := List.mem_map.mp hd; simp [toPy, PyData.depth]
theorem o_minLD {d : D} {xs : List Int} {m : Int} (h : minI xs = some m) (hd : items d = some (xs.map D.int)) (hn : ∀ i j, [d] ≠ [D.int i, D.int j]) : minG [d] = some (.int m) := by
  cases xs with
  | nil => cases h
  | cons x xs =>
    cases h
    have e0 : minG [d] = (items d).bind (fun ds => if bestOk ds = true then bestL false ds else none) := by cases d <;> rfl
    rw [e0]
    rw [hd]; simp only [Option.bind_some]; rw [if_pos (bestOk_ints _)]
    show some ((xs.map D.int).foldl (better false) (.int x)) = _
    rw [best_ints]; simp
theorem o_maxLD {d : D} {xs : List Int} {m : Int} (h : maxI xs = some m) (hd : items d = some (xs.map D.int)) : maxG [d] = some (.int m) := by
  cases xs with
  | nil => cases h
  | cons x xs =>
    cases h
    have e0 : maxG [d] = (items d).bind (fun ds => if bestOk ds = true then bestL true ds else none) := by cases d <;> rfl
    rw [e0]
    rw [hd]; simp only [Option.bind_some]; rw [if_pos (bestOk_ints _)]
    show some ((xs.map D.int).foldl (better true) (.int x)) = _
    rw [best_ints]; simp
theorem o_minIL {xs : List Int} {m : Int} (h : minI xs = some m) : minG [eL .int xs] = some (.int m) := o_minLD h rfl (by simp)
theorem o_minIT {xs : List Int} {m : Int} (h : minI xs = some m) : minG [eT .int xs] = some (.int m) := o_minLD h rfl (by simp)
theorem o_maxIL {xs : List Int} {m : Int} (h : maxI xs = some m) : maxG [eL .int xs] = some (.int m) := o_maxLD h rfl
theorem o_maxIT {xs : List Int} {m : Int} (h : maxI xs = some m) : maxG [eT .int xs] = some (.int m) := o_maxLD h rfl
theorem o_minG2 (a b : Int) : minG [.int a, .int b] = some (.int (min2 a b)) := nr rfl
theorem o_maxG2 (a b : Int) : maxG [.int a, .int b] = some (.int (max2 a b)) := nr rfl
/-! ### fields, methods -/
section
variable {env : En} {f g : En → R D} {ga : En → R (List D)} {d z : D} {ds : List D} {c n m : Str} {k : Nat}
theorem p_fld (q : fldD c n d = some z) (hf : f env = .ok d) : eFld c n f env = .ok z := by unfold eFld; rw [hf, R.bind_ok, q]; rfl
theorem p_meth {F : List D → R D} (q : F (d :: ds) = .ok z) (hi : insOf c m d = true) (hf : f env = .ok d) (hg : ga env = .ok ds) (hn : ds.length + 1 = k := by rfl) : eMeth c m k F f ga env = .ok z := by
  unfold eMeth; rw [hf, R.bind_ok, if_pos hi, hg, R.bind_ok, if_pos hn, q]
theorem rg_meth {e : α → D} {F : List D → R D} {t : R α} (q : RG e (F (d :: ds)) t) (hi : insOf c m d = true) (hf : f env = .ok d) (hg : ga env = .ok ds) (hn : ds.length + 1 = k := by rfl) : RG e (eMeth c m k F f ga env) t := by
  unfold eMeth; rw [hf, R.bind_ok, if_pos hi, hg, R.bind_ok, if_pos hn]; exact q
end
/-! ### places -/
structure RPt (e : α → D) (i : Nat) (p : PX) (env : En) (r : D) (st : List Stp) (c : α) (up : α → D) : Prop where
  res : resolve i p env = .ok (st, e c)
  own : env[i]? = some (.ow r)
  upd : ∀ w : α, setP st (e w) r = up w
theorem getP_of {i : Nat} {p : PX} {env : En} {r c : D} {st : List Stp} (h : resolve i p env = .ok (st, c)) (o : env[i]? = some (.ow r)) : getP st r = some c := by
  obtain ⟨r', h1, h2⟩ := resolve_get h
  rw [o] at h1; cases h1; exact h2
theorem setP_snoc : ∀ {st : List Stp} {s : Stp} {r c e : D}, getP st r = some c → setP (st ++ [s]) e r = setP st (setP [s] e c) r
  | [], s, r, c, e, h => by simp only [getP, Option.some.injEq] at h; subst h; rfl
  | q :: st, s, r, c, e, h => by
    simp only [getP] at h
    cases hp : posS q r with
    | none => rw [hp] at h; cases h
    | some p =>
      rw [hp] at h; simp only [Option.bind_some] at h
      cases hk : (kids r)[p]? with
      | none => rw [hk] at h; cases h
      | some x =>
        rw [hk] at h; simp only [Option.bind_some] at h
        have A : ∀ (t : List Stp) (w : D), setP (q :: t) w r = withK r ((kids r).set p (setP t w x)) := fun t w => by rw [setP, hp]; simp only [hk]
        rw [List.cons_append, A, A, setP_snoc h]
theorem rp_v {e : α → D} {i : Nat} {env : En} {x : α} (h : env[i]? = some (.ow (e x))) : RPt e i .v env (e x) [] x e := ⟨by simp only [resolve, h], h, fun w => rfl⟩
/-- an item of a list set -/
def setI (xs : List α) (k : Int) (w : α) : List α := match L2.ixN xs.length k with
  | some m => xs.set m w
  | none => xs
theorem rp_ixL {e : α → D} {i : Nat} {p : PX} {env : En} {r : D} {st : List Stp} {xs : List α} {up : List α → D} {g : En → R D} {k : Int} {v : α} (hv : L2.atI xs k = some v) (h : RPt (eL e) i p env r st xs up) (hk : g env = .ok (.int k)) :
    RPt e i (.x p g) env r (st ++ [.i k]) v (fun w => up (setI xs k w)) := by
  unfold L2.atI at hv
  cases hm : L2.ixN xs.length k with
  | none => rw [hm] at hv; cases hv
  | some m =>
    rw [hm] at hv; simp only [Option.bind_some] at hv
    have hpos : posS (.i k) (eL e xs) = some m := by show L2.ixN (xs.map e).length k = some m; rw [List.length_map]; exact hm
    have hkid : (kids (eL e xs))[m]? = some (e v) := by show (xs.map e)[m]? = _; rw [List.getElem?_map, hv]; rfl
    have gs : getP [.i k] (eL e xs) = some (e v) := by simp only [getP, hpos, Option.bind_some, hkid]
    have g0 := getP_of h.res h.own
    refine ⟨?_, h.own, fun w => ?_⟩
    · simp only [resolve, h.res, R.bind_ok, hk]
      show R.of ((stepFor (eL e xs) (.int k)).bind fun s => (getP [s] (eL e xs)).map fun d => (st ++ [s], d)) = _
      have : stepFor (eL e xs) (.int k) = some (.i k) := rfl
      rw [this]; simp only [Option.bind_some, gs, Option.map_some]; rfl
    · rw [setP_snoc g0]
      have : setP [.i k] (e w) (eL e xs) = eL e (setI xs k w) := by
        simp only [setP, hpos, hkid]
        show D.lst ((xs.map e).set m (e w)) = _
        unfold setI; rw [hm]; simp only [eL, List.map_set]
      rw [this]; exact h.upd _
/-- a field of the instance under way -/
theorem rp_fld {e : α → D} {i pos : Nat} {p : PX} {env : En} {r : D} {st : List Stp} {c n : Str} {id : Option Nat} {fs : List Str} {xs : List D} {x : α} (h : RPt eD i p env r st (.ins c id fs xs) eD) (hp : posL fs n = some pos) (hx : xs[pos]? = some (e x)) :
    RPt e i (.f p c n) env r (st ++ [.f n]) x (fun w => .ins c id fs (xs.set pos (e w))) := by
  have hpos : posS (.f n) (.ins c id fs xs) = some pos := hp
  have hkid : (kids (.ins c id fs xs))[pos]? = some (e x) := hx
  have gs : getP [.f n] (.ins c id fs xs) = some (e x) := by simp only [getP, hpos, Option.bind_some, hkid]
  have g0 := getP_of h.res h.own
  refine ⟨?_, h.own, fun w => ?_⟩
  · simp only [resolve, h.res, R.bind_ok, eD, if_true, gs, Option.map_some]; rfl
  · rw [setP_snoc g0]
    have : setP [.f n] (e w) (eD (.ins c id fs xs)) = .ins c id fs (xs.set pos (e w)) := by
      show setP [.f n] (e w) (.ins c id fs xs) = _
      simp only [setP, hpos, hkid]; rfl
    rw [this]; exact h.upd _
section
variable {pl pm : En → En} {ml : τ → En} {mk : σ → En} {er : ρ → D} {env env' : En} {f fk : En → R D} {ga : En → R (List D)} {F G A : En → Fl} {i j : Nat} {p p2 : PX} {r d kd : D} {st : List Stp}
theorem putBack_eq {w : D} (h : env[i]? = some (.ow r)) : putBack i st w env = .nx (env.set i (.ow (setP st w r))) := by unfold putBack; rw [h]
theorem rs_appP {e : α → D} {eR : β → D} {xs : List α} {x : α} {up : List α → D} {U : List α → β} {k : β → TF τ σ ρ} (h : RPt (eL e) i p env r st xs up) (hu : ∀ w, up w = eR (U w)) (hf : f env = .ok (e x)) (hG : ∀ z, RS pl ml pm mk er (G (env.set i (.ow (eR z)))) (k z)) :
    RS pl ml pm mk er (sSeq (sAppP i p f) G env) (obind (appO xs x) fun ys => tlet (U ys) k) := by
  unfold appO
  split
  · rename_i hl
    refine seq_nx ?_ (hG _)
    unfold sAppP onP
    rw [h.res, onE_ok]
    show (match eL e xs with | .lst xs => onE (f env) env fun d => if xs.length < sizeLine then putBack i st (.lst (xs ++ [d])) env else .no | _ => .no) = _
    simp only [eL]
    rw [hf, onE_ok, if_pos (by simpa using hl), putBack_eq h.own]
    have := h.upd (xs ++ [x])
    simp only [eL, List.map_append, List.map_cons, List.map_nil] at this
    rw [this, hu]
  · trivial
theorem storeR_eq {e : α → D} {c c' : α} {up : α → D} (h : RPt e i p env r st c up) (hk : fk env = .ok kd) (hs : storeD (e c) kd d = some (e c')) : storeR i p fk d env = .ok (env.set i (.ow (up c'))) := by
  unfold storeR
  rw [h.res, R.bind_ok, hk, R.bind_ok, hs, h.own]
  simp only [Option.bind_some]
  rw [h.upd]; rfl
theorem rs_store {e : α → D} {eR : β → D} {c : α} {o : Option α} {up : α → D} {U : α → β} {k : β → TF τ σ ρ} (h : RPt e i p env r st c up) (hu : ∀ w, up w = eR (U w)) (hf : f env = .ok d) (hk : fk env = .ok kd) (hs : ∀ c', o = some c' → storeD (e c) kd d = some (e c')) (hG : ∀ z, RS pl ml pm mk er (G (env.set i (.ow (eR z)))) (k z)) :
    RS pl ml pm mk er (sSeq (sSetP i p fk f) G env) (obind o fun c' => tlet (U c') k) := by
  cases o with
  | none => trivial
  | some c' =>
    refine seq_nx ?_ (hG _)
    unfold sSetP
    rw [hf, onE_ok, storeR_eq h hk (hs c' rfl), onE_ok, hu]
theorem st_L {e : α → D} {xs ys : List α} {k : Int} {x : α} (h : setO xs k x = some ys) : storeD (eL e xs) (.int k) (e x) = some (eL e ys) := by
  unfold setO at h
  obtain ⟨m, hm, rfl⟩ := Option.map_eq_some_iff.mp h
  show (L2.ixN (xs.map e).length k).map (fun m => D.lst ((xs.map e).set m (e x))) = _
  rw [List.length_map, hm]; simp [eL, List.map_set]
/-- two item stores at once, in one list of a slot -/
theorem rs_store2 {e : α → D} {xs : List α} {x y : α} {k1 k2 : Int} {fk2 : En → R D} {k : List α → TF τ σ ρ} (hm : ∀ v, imm (e v) = true) (hl : env[i]? = some (.ow (eL e xs))) (hg : ga env = .ok [e x, e y]) (h1 : fk env = .ok (.int k1)) (h2 : ∀ zs, fk2 (env.set i (.ow (eL e zs))) = .ok (.int k2))
    (hG : ∀ zs, RS pl ml pm mk er (G (env.set i (.ow (eL e zs)))) (k zs)) : RS pl ml pm mk er (sSeq (sSetP2 i .v fk i .v fk2 ga) G env) (obind (setO xs k1 x) fun ys => obind (setO ys k2 y) k) := by
  cases q : setO xs k1 x with
  | none => trivial
  | some ys =>
    cases q2 : setO ys k2 y with
    | none => show RS _ _ _ _ _ _ (obind (setO ys k2 y) k); rw [q2]; trivial
    | some zs =>
      show RS _ _ _ _ _ _ (obind (setO ys k2 y) k); rw [q2]
      have hil := (List.getElem?_eq_some_iff.mp hl).1
      have l2 : (env.set i (.ow (eL e ys)))[i]? = some (.ow (eL e ys)) := List.getElem?_set_self hil
      refine seq_nx ?_ (hG zs)
      unfold sSetP2
      rw [hg, onE_ok]
      simp only
      rw [if_pos ⟨hm x, hm y⟩, storeR_eq (rp_v (e := eL e) hl) h1 (st_L q), onE_ok, storeR_eq (rp_v (e := eL e) l2) (h2 ys) (st_L q2), onE_ok, List.set_set]
/-! ### self.n = e -/
theorem rs_fldF (e : α → D) {x : α} {c n : Str} {id : Option Nat} {fs : List Str} {xs : List D} {k : α → TF τ σ ρ} (hi : env[i]? = some (.ow (.ins c id fs xs))) (hc : (!fs.contains n && decide (fs.length < 900)) = true) (hf : f env = .ok (e x)) (hG : ∀ y, RS pl ml pm mk er (G (env.set i (.ow (.ins c id (fs ++ [n]) (xs ++ [e y]))))) (k y)) :
    RS pl ml pm mk er (sSeq (sFldF i c n f) G env) (tlet x k) := by
  simp only [Bool.and_eq_true, Bool.not_eq_true', decide_eq_true_eq] at hc
  refine seq_nx ?_ (hG x)
  unfold sFldF onIns
  rw [hi]; simp only
  rw [if_pos ⟨trivial, hc.1, hc.2⟩, hf, onE_ok]
theorem rs_fldI (e : α → D) {x : α} {c n : Str} {id : Option Nat} {fs : List Str} {xs : List D} {k : α → TF τ σ ρ} (hm : imm (e x) = true) (hi : env[i]? = some (.ow (.ins c id fs xs))) (hc : (!fs.contains n && decide (fs.length < 900)) = true) (hf : f env = .ok (e x)) (hG : ∀ y, RS pl ml pm mk er (G (env.set i (.ow (.ins c id (fs ++ [n]) (xs ++ [e y]))))) (k y)) :
    RS pl ml pm mk er (sSeq (sFldI i c n f) G env) (tlet x k) := by
  simp only [Bool.and_eq_true, Bool.not_eq_true', decide_eq_true_eq] at hc
  refine seq_nx ?_ (hG x)
  unfold sFldI onIns
  rw [hi]; simp only
  rw [if_pos ⟨trivial, hc.1, hc.2⟩, hf, onE_ok, if_pos hm]
end
/-! ### making -/
def TF.runI (t : TF Unit σ Unit) : R σ := match t with
  | .nx s => .ok s
  | .ex c => .ex c
  | _ => .no
@[simp] theorem TF.runI_nx (s : σ) : TF.runI (.nx s) = .ok s := nr rfl
@[simp] theorem TF.runI_ex (c : Str) : TF.runI (.ex c : TF Unit σ Unit) = .ex c := nr rfl
theorem rf_init {c : Str} {n m : Nat} {G : En → Fl} {ds : List D} {fs : List Str} {xs : σ → List D} {t : TF Unit σ Unit} (hn : ds.length = n) (h : ∀ i, RS (fun _ => []) (fun _ => []) (fun e => e.take 1) (fun s => [.ow (.ins c (some i) fs (xs s))]) eN (G (startI c m i ds)) t) :
    RG (fun s => D.ins c none fs (xs s)) (mkF c n m G ds) t.runI := by
  cases t with
  | nx s =>
    refine mkF_eq ⟨hn, fun i => ?_⟩
    obtain ⟨e, h1, h2⟩ := h i
    refine ⟨rfl, rfl, e, h1, ?_⟩
    cases e with
    | nil => simp at h2
    | cons a e => simp at h2; simp [h2]
  | ex x => exact mkF_eq ⟨hn, fun i => h i⟩
  | rt x => trivial
  | bk s => trivial
  | ct s => trivial
  | no => trivial
/-! ### dict comprehensions -/
def tdcomp (xs : List β) (p : β → Option Bool) (fk fv : β → Option D) : D → Option D := match xs with
  | [] => some
  | x :: xs => fun acc => (p x).bind fun b => if b = true then (fk x).bind fun k => (fv x).bind fun v => (storeD acc k v).bind fun acc' => tdcomp xs p fk fv acc' else tdcomp xs p fk fv acc
theorem p_dcomp {env : En} {new : D} {vs : List Nat} {T : Tg} {fi : En → R (List D)} {cc : En → R Bool} {gk gv : En → R D} (eb : β → D) {xs : List β} {p : β → Option Bool} {fk fv : β → Option D} {r : D} (hv : tdcomp xs p fk fv new = some r) (hi : fi env = .ok (xs.map eb))
    (h : ∀ x w, p x = some w → ∃ e', put T (eb x) (wipeE env vs) = some e' ∧ cc e' = .ok w ∧ (∀ v, fk x = some v → gk e' = .ok v) ∧ ∀ v, fv x = some v → gv e' = .ok v) : eDComp new vs T fi cc gk gv env = .ok r := by
  have key : ∀ (xs : List β) (acc : D), tdcomp xs p fk fv acc = some r → cmpD T cc gk gv (wipeE env vs) (xs.map eb) acc = some r := by
    intro xs
    induction xs with
    | nil => intro acc h; exact h
    | cons x xs ih =>
      intro acc hy
      simp only [tdcomp] at hy
      obtain ⟨w, hw, hy⟩ := ob hy
      obtain ⟨e', h1, h2, h3, h4⟩ := h x w hw
      simp only [List.map_cons, cmpD, h1, Option.bind_some, h2, sure]
      cases w with
      | true =>
        rw [if_pos rfl] at hy ⊢
        obtain ⟨k, hk, hy⟩ := ob hy
        obtain ⟨v, hv, hy⟩ := ob hy
        obtain ⟨a, ha, hy⟩ := ob hy
        simp only [h3 k hk, h4 v hv, sure, Option.bind_some, ha]
        exact ih a hy
      | false =>
        rw [if_neg (by simp)] at hy ⊢
        exact ih acc hy
  unfold eDComp
  rw [hi, R.bind_ok, key xs new hv]; rfl
theorem p_dk {env : En} : eDk env = .ok (.dk [] []) := nr rfl
theorem p_dt {env : En} : eDt env = .ok (.dt [] []) := nr rfl
end TL
set_option Elab.async false
set_option linter.all false
set_option maxRecDepth 100000
set_option maxHeartbeats 2000000
namespace TL
open PySem PySem.Spec PyProof.Rows L2 DL
variable {α β : Type}
variable {env : En} {f g : En → R D} {z a : Str} {ys : List Str} {kvs : List (Str × Str)}
theorem p_asS {d : D} {b : Str} (h : asS d = some b) (q : f env = .ok d) : f env = .ok (.str b) := by
  cases d <;> simp [asS] at h
  rw [q, h]
theorem strsD_map : ∀ ys : List Str, strsD (ys.map D.str) = some ys
  | [] => rfl
  | y :: ys => by simp [strsD, strsD_map ys]
theorem p_joinL (h : joinS a ys = some z) (hf : f env = .ok (.str a)) (hg : g env = .ok (eL D.str ys)) : eJoin f g env = .ok (.str z) := by
  have e : joinD a (eL D.str ys) = some (.str z) := by
    show (strsD (ys.map D.str)).bind _ = _
    rw [strsD_map, Option.bind_some, h]; rfl
  show (f env >>= fun d => R.of (strOf d) >>= fun a => g env >>= fun e => R.of (joinD a e)) = _
  rw [hf]
  show (g env >>= fun e => R.of (joinD a e)) = _
  rw [hg]
  show R.of (joinD a (eL D.str ys)) = _
  rw [e]; rfl
theorem p_joinT (h : joinS a ys = some z) (hf : f env = .ok (.str a)) (hg : g env = .ok (eT D.str ys)) : eJoin f g env = .ok (.str z) := by
  have e : joinD a (eT D.str ys) = some (.str z) := by
    show (strsD (ys.map D.str)).bind _ = _
    rw [strsD_map, Option.bind_some, h]; rfl
  show (f env >>= fun d => R.of (strOf d) >>= fun a => g env >>= fun e => R.of (joinD a e)) = _
  rw [hf]
  show (g env >>= fun e => R.of (joinD a e)) = _
  rw [hg]
  show R.of (joinD a (eT D.str ys)) = _
  rw [e]; rfl
theorem p_inK (hf : f env = .ok (.str z)) : eInK kvs f env = .ok (.bl (kvs.lookup z).isSome) := by
  show (f env >>= fun d => R.of (strOf d) >>= fun z => _) = _
  rw [hf]; rfl
theorem p_ninK (hf : f env = .ok (.str z)) : eNinK kvs f env = .ok (.bl (!(kvs.lookup z).isSome)) := by
  show (f env >>= fun d => R.of (strOf d) >>= fun z => _) = _
  rw [hf]; rfl
theorem p_ixK {y : Str} (h : kvs.lookup z = some y) (hf : f env = .ok (.str z)) : eIxK kvs f env = .ok (.str y) := by
  show (f env >>= fun d => R.of (strOf d) >>= fun z => R.of ((kvs.lookup z).map D.str)) = _
  rw [hf]
  show R.of ((kvs.lookup z).map D.str) = _
  rw [h]; rfl
/-! ### instances decoded -/
def decIns (c : Str) (fs : List Str) (g : List D → Option α) : D → Option α
  | .ins c' none fs' xs => if c' = c ∧ fs' = fs then g xs else none
  | _ => none
def decNil : List D → Option Unit
  | [] => some ()
  | _ => none
def decOne (f : D → Option α) : List D → Option α
  | [d] => f d
  | _ => none
def decCons (f : D → Option α) (g : List D → Option β) : List D → Option (α × β)
  | d :: ds => (f d).bind fun a => (g ds).bind fun b => some (a, b)
  | _ => none
def DcL (e : α → List D) (f : List D → Option α) : Prop := ∀ ds x, f ds = some x → ds = e x
theorem dc_ins {c : Str} {fs : List Str} {g : List D → Option α} {e : α → List D} (h : DcL e g) : Dc (fun x => .ins c none fs (e x)) (decIns c fs g) := fun d x q => by
  unfold decIns at q
  split at q
  · split at q
    · rename_i c2; rw [h _ _ q, c2.1, c2.2]
    · cases q
  · cases q
theorem dcl_nil : DcL (fun _ : Unit => []) decNil := fun ds x q => by
  unfold decNil at q; split at q
  · rfl
  · cases q
theorem dcl_one {e : α → D} {f : D → Option α} (h : Dc e f) : DcL (fun x => [e x]) (decOne f) := fun ds x q => by
  unfold decOne at q; split at q
  · rw [h _ _ q]
  · cases q
theorem dcl_cons {e : α → D} {f : D → Option α} {e' : β → List D} {g : List D → Option β} (h : Dc e f) (h' : DcL e' g) : DcL (fun x : α × β => e x.1 :: e' x.2) (decCons f g) := fun ds x q => by
  unfold decCons at q; split at q
  · obtain ⟨a, h1, q⟩ := ob q
    obtain ⟨b, h2, q⟩ := ob q
    cases q
    rw [h _ _ h1, h' _ _ h2]
  · cases q
end TL
set_option Elab.async false
set_option linter.all false
set_option maxRecDepth 100000
set_option maxHeartbeats 2000000
namespace TL
open PySem PySem.Spec PyProof.Rows L2 DL
variable {α β γ δ : Type}
/-! ## typed dicts -/
def kI (i : Int) : Key := .inl i
def kS (s : Str) : Key := .inr s
def k1 (a : α → Key) (x : α) : List Key := [a x]
def k2 (a : α → Key) (b : β → Key) (x : α × β) : List Key := [a x.1, b x.2]
def k3 (a : α → Key) (b : β → Key) (c : γ → Key) (x : α × β × γ) : List Key := [a x.1, b x.2.1, c x.2.2]
def eMt (ek : α → List Key) (ev : β → D) (m : List (α × β)) : D := .dt (m.map fun p => ek p.1) (m.map fun p => ev p.2)
def eMk (ek : α → Key) (ev : β → D) (m : List (α × β)) : D := .dk (m.map fun p => ek p.1) (m.map fun p => ev p.2)
structure K1 (e : α → D) (ek : α → Key) : Prop where
  key : ∀ x, keyOf (e x) = some (ek x)
  inj : ∀ x y, ek x = ek y → x = y
structure Kt (e : α → D) (ek : α → List Key) : Prop where
  key : ∀ x, keysOf (e x) = some (ek x)
  inj : ∀ x y, ek x = ek y → x = y
theorem k_int : K1 D.int kI := ⟨fun _ => rfl, fun x y h => by cases h; rfl⟩
theorem k_str : K1 D.str kS := ⟨fun _ => rfl, fun x y h => by cases h; rfl⟩
theorem kt_2 {e : α → D} {e' : β → D} {a : α → Key} {b : β → Key} (h : K1 e a) (h2 : K1 e' b) : Kt (e2 e e') (k2 a b) :=
  ⟨fun x => by simp [e2, keysOf, keysAll, h.key, h2.key, k2], fun x y q => by
    simp only [k2, List.cons.injEq, and_true] at q
    exact Prod.ext (h.inj _ _ q.1) (h2.inj _ _ q.2)⟩
theorem kt_3 {e : α → D} {e' : β → D} {e'' : γ → D} {a : α → Key} {b : β → Key} {c : γ → Key} (h : K1 e a) (h2 : K1 e' b) (h3 : K1 e'' c) : Kt (e3 e e' e'') (k3 a b c) :=
  ⟨fun x => by simp [e3, keysOf, keysAll, h.key, h2.key, h3.key, k3], fun x y q => by
    simp only [k3, List.cons.injEq, and_true] at q
    exact Prod.ext (h.inj _ _ q.1) (Prod.ext (h2.inj _ _ q.2.1) (h3.inj _ _ q.2.2))⟩
section
variable [DecidableEq α]
def putA (m : List (α × β)) (k : α) (v : β) : List (α × β) := if k ∈ m.map Prod.fst then m.map fun p => if p.1 = k then (p.1, v) else p else m ++ [(k, v)]
def putM (m : List (α × β)) (k : α) (v : β) : Option (List (α × β)) := if m.length < sizeLine then some (putA m k v) else none
/-- what stands at a key -/
def getM (m : List (α × β)) (k : α) : Option β := m.lookup k
section
variable {κ : Type} [DecidableEq κ] {ek : α → κ} {ev : β → D}
theorem has_map (inj : ∀ x y, ek x = ek y → x = y) (k : α) : ∀ m : List (α × β), hasK (m.map fun p => ek p.1) (ek k) = decide (k ∈ m.map Prod.fst)
  | [] => rfl
  | p :: m => by
    have ih := has_map inj k m
    unfold hasK at ih ⊢
    rw [List.map_cons, List.any_cons, ih]
    by_cases c : p.1 = k
    · simp [c]
    · have : ek p.1 ≠ ek k := fun h => c (inj _ _ h)
      have c2 : ¬ k = p.1 := fun h => c h.symm
      simp [this, c2]
theorem look_map (inj : ∀ x y, ek x = ek y → x = y) (k : α) : ∀ m : List (α × β), dlook (m.map fun p => ek p.1) (m.map fun p => ev p.2) (ek k) = (m.lookup k).map ev
  | [] => rfl
  | p :: m => by
    have ih := look_map inj k m
    rw [List.map_cons, List.map_cons, dlook, List.lookup_cons]
    by_cases c : p.1 = k
    · have c2 : (k == p.1) = true := by simp [c]
      rw [if_pos (by rw [c]), c2]; rfl
    · have : ¬ ek p.1 = ek k := fun h => c (inj _ _ h)
      have c2 : (k == p.1) = false := by simpa using fun h : k = p.1 => c h.symm
      rw [if_neg this, c2, ih]
theorem repl_map (inj : ∀ x y, ek x = ek y → x = y) (k : α) (v : β) : ∀ m : List (α × β), replD (m.map fun p => ek p.1) (m.map fun p => ev p.2) (ek k) (ev v) = (m.map fun p => if p.1 = k then (p.1, v) else p).map fun p => ev p.2
  | [] => rfl
  | p :: m => by
    have ih := repl_map inj k v m
    rw [List.map_cons, List.map_cons, replD, ih, List.map_cons, List.map_cons]
    congr 1
    by_cases c : p.1 = k
    · rw [if_pos (by rw [c]), if_pos c]
    · rw [if_neg fun h => c (inj _ _ h), if_neg c]
theorem keys_repl (k : α) (v : β) (m : List (α × β)) : (m.map fun p => if p.1 = k then (p.1, v) else p).map (fun p => ek p.1) = m.map fun p => ek p.1 := by
  rw [List.map_map]; apply List.map_congr_left; intro p _; simp only [Function.comp]; split <;> rfl
theorem put_map {mk : List κ → List D → D} (inj : ∀ x y, ek x = ek y → x = y) (hm : ∀ v, imm (ev v) = true) {m m' : List (α × β)} {k : α} {v : β} (h : putM m k v = some m') : putD mk (m.map fun p => ek p.1) (m.map fun p => ev p.2) (ek k) (ev v) = some (mk (m'.map fun p => ek p.1) (m'.map fun p => ev p.2)) := by
  unfold putM at h
  split at h
  · rename_i hl
    cases h
    unfold putD putA
    rw [List.length_map, if_pos hl, has_map inj]
    by_cases c : k ∈ m.map Prod.fst
    · rw [if_pos c, if_pos (decide_eq_true c), if_pos (hm v), repl_map inj, keys_repl]
    · rw [if_neg c, if_neg (by simpa using c)]
      simp
  · cases h
end
variable {e : α → D} {ev : β → D}
theorem o_inMt {ek : α → List Key} (h : Kt e ek) (k : α) (m : List (α × β)) : inB (e k) (eMt ek ev m) = some (decide (k ∈ m.map Prod.fst)) := by
  show (keysOf (e k)).map (fun z => hasK _ z) = _
  rw [h.key, Option.map_some, has_map h.inj]
theorem o_inMk {ek : α → Key} (h : K1 e ek) (k : α) (m : List (α × β)) : inB (e k) (eMk ek ev m) = some (decide (k ∈ m.map Prod.fst)) := by
  show (keyOf (e k)).map (fun z => hasK _ z) = _
  rw [h.key, Option.map_some, has_map h.inj]
theorem o_ixMt {ek : α → List Key} (h : Kt e ek) {k : α} {m : List (α × β)} {v : β} (q : getM m k = some v) : idxD (eMt ek ev m) (e k) = some (ev v) := by
  show (keysOf (e k)).bind (dlook _ _) = _
  rw [h.key, Option.bind_some, look_map h.inj, show m.lookup k = some v from q]; rfl
theorem o_ixMk {ek : α → Key} (h : K1 e ek) {k : α} {m : List (α × β)} {v : β} (q : getM m k = some v) : idxD (eMk ek ev m) (e k) = some (ev v) := by
  show (keyOf (e k)).bind (dlook _ _) = _
  rw [h.key, Option.bind_some, look_map h.inj, show m.lookup k = some v from q]; rfl
theorem st_Mt {ek : α → List Key} (h : Kt e ek) (hm : ∀ v, imm (ev v) = true) {k : α} {m m' : List (α × β)} {v : β} (q : putM m k v = some m') : storeD (eMt ek ev m) (e k) (ev v) = some (eMt ek ev m') := by
  show (keysOf (e k)).bind (fun z => putD .dt _ _ z _) = _
  rw [h.key, Option.bind_some]; exact put_map h.inj hm q
theorem st_Mk {ek : α → Key} (h : K1 e ek) (hm : ∀ v, imm (ev v) = true) {k : α} {m m' : List (α × β)} {v : β} (q : putM m k v = some m') : storeD (eMk ek ev m) (e k) (ev v) = some (eMk ek ev m') := by
  show (keyOf (e k)).bind (fun z => putD .dk _ _ z _) = _
  rw [h.key, Option.bind_some]; exact put_map h.inj hm q
end
theorem o_lenMt {ek : α → List Key} {ev : β → D} (m : List (α × β)) : lenF [eMt ek ev m] = some (.int (m.length : Int)) := by
  show some (D.int ((m.map fun p => ek p.1).length : Int)) = _
  rw [List.length_map]
theorem o_lenMk {ek : α → Key} {ev : β → D} (m : List (α × β)) : lenF [eMk ek ev m] = some (.int (m.length : Int)) := by
  show some (D.int ((m.map fun p => ek p.1).length : Int)) = _
  rw [List.length_map]
theorem p_emMt {env : En} {ek : α → List Key} {ev : β → D} : eDt env = .ok (eMt ek ev ([] : List (α × β))) := nr rfl
theorem p_emMk {env : En} {ek : α → Key} {ev : β → D} : eDk env = .ok (eMk ek ev ([] : List (α × β))) := nr rfl
theorem p_disp1 {env : En} {f g : En → R D} {e : α → D} {ek : α → List Key} {ev : β → D} {k : α} {v : β} (h : Kt e ek) (hf : f env = .ok (e k)) (hg : g env = .ok (ev v)) : eDisp1 f g env = .ok (eMt ek ev [(k, v)]) := by
  show (f env >>= fun k => g env >>= fun d => R.of (storeD (.dt [] []) k d)) = _
  rw [hf]
  show (g env >>= fun d => R.of (storeD (.dt [] []) (e k) d)) = _
  rw [hg]
  have q : storeD (.dt [] []) (e k) (ev v) = some (eMt ek ev [(k, v)]) := by
    show (keysOf (e k)).bind (fun z => putD .dt [] [] z _) = _
    rw [h.key]
    rfl
  show R.of (storeD (.dt [] []) (e k) (ev v)) = _
  rw [q]; rfl
end TL
set_option Elab.async false
set_option linter.all false
set_option maxRecDepth 100000
set_option maxHeartbeats 2000000
namespace TL
open PySem PySem.Spec PyProof.Rows L2 DL
variable {α β γ δ σ τ ρ : Type}
theorem o_geI (a b : Int) : geX (.int a) (.int b) = some (.bl (decide (b ≤ a))) := nr rfl
def geP (p q : Int × Int) : Bool := if p.1 = q.1 then (if p.2 = q.2 then true else decide (q.2 ≤ p.2)) else decide (q.1 ≤ p.1)
theorem o_geP (p q : Int × Int) : geX (e2 D.int D.int p) (e2 D.int D.int q) = some (.bl (geP p q)) := nr rfl
/-- x in xs -/
def memL {α : Type} [DecidableEq α] (x : α) (l : List α) : Bool := decide (x ∈ l)
theorem pairsD_map : ∀ ps : List (Int × Int), pairsD (ps.map (e2 D.int D.int)) = some ps
  | [] => rfl
  | p :: ps => by
    show (pairsD (ps.map (e2 D.int D.int))).map _ = _
    rw [pairsD_map ps]; rfl
theorem p_sortSet {env : En} {f : En → R D} {ps qs : List (Int × Int)} (h : sortSet ps = some qs) (hf : f env = .ok (eL (e2 D.int D.int) ps)) : eSortSet f env = .ok (eL (e2 D.int D.int) qs) := by
  have e : sortSetD (eL (e2 D.int D.int) ps) = some (eL (e2 D.int D.int) qs) := by
    show (pairsD (ps.map (e2 D.int D.int))).bind _ = _
    rw [pairsD_map, Option.bind_some, h]; rfl
  show (f env >>= fun d => R.of (sortSetD d)) = _
  rw [hf]
  show R.of (sortSetD (eL (e2 D.int D.int) ps)) = _
  rw [e]; rfl
theorem p_sortSetT {env : En} {f : En → R D} {ps qs : List (Int × Int)} (h : sortSet ps = some qs) (hf : f env = .ok (eT (e2 D.int D.int) ps)) : eSortSet f env = .ok (eL (e2 D.int D.int) qs) := by
  have e : sortSetD (eT (e2 D.int D.int) ps) = some (eL (e2 D.int D.int) qs) := by
    show (pairsD (ps.map (e2 D.int D.int))).bind _ = _
    rw [pairsD_map, Option.bind_some, h]; rfl
  show (f env >>= fun d => R.of (sortSetD d)) = _
  rw [hf]
  show R.of (sortSetD (eT (e2 D.int D.int) ps)) = _
  rw [e]; rfl
def pop0 (xs : List α) : Option (List α × α) := match xs[0]? with
  | some x => some (xs.drop 1, x)
  | none => none
section
variable {pl pm : En → En} {ml : τ → En} {mk : σ → En} {er : ρ → D} {env : En} {G : En → Fl} {i j : Nat}
theorem rs_move (e : α → D) {x : α} {k : α → TF τ σ ρ} (hl : env[j]? = some (.ow (e x))) (hij : Nat.beq i j = false) (h : ∀ y, RS pl ml pm mk er (G ((env.set j .un).set i (.ow (e y)))) (k y)) (hi : Nat.blt i env.length = true := by rfl) : RS pl ml pm mk er (sSeq (sMove i j) G env) (tlet x k) :=
  seq_nx (by unfold sMove; rw [hl]; simp only; rw [if_pos ⟨lt_of hi, fun c => by subst c; simp at hij⟩]) (h x)
theorem rs_pop0 (e : α → D) (hm : ∀ v, imm (e v) = true) {xs : List α} {k : List α → α → TF τ σ ρ} (hl : env[j]? = some (.ow (eL e xs))) (hij : Nat.beq i j = false) (h : ∀ ys y, RS pl ml pm mk er (G ((env.set j (.ow (eL e ys))).set i (.ow (e y)))) (k ys y)) (hi : Nat.blt i env.length = true := by rfl) : RS pl ml pm mk er (sSeq (sPop0 i j) G env) (obind (pop0 xs) fun p => tlet p.1 fun a => tlet p.2 fun b => k a b) := by
  unfold pop0
  cases q : xs[0]? with
  | none => trivial
  | some x =>
    refine seq_nx ?_ (h _ _)
    unfold sPop0 onList; rw [hl]; simp only [eL]
    unfold popTo0; simp only [List.length_map, List.getElem?_map, q, Option.map_some]
    rw [if_pos ⟨immAll_map hm xs, lt_of hi, fun c => by subst c; simp at hij⟩, List.map_drop]
theorem addS_L {e : α → D} {a b c : List α} (h : extO a b = some c) : addS (eL e a) (eL e b) = some (eL e c) := by
  unfold extO at h
  split at h
  · rename_i q; cases h
    show (if _ then _ else _) = _
    rw [List.length_map, List.length_map, if_pos q, ← List.map_append]; rfl
  · cases h
theorem addS_T {e : α → D} {a b c : List α} (h : extO a b = some c) : addS (eT e a) (eT e b) = some (eT e c) := by
  unfold extO at h
  split at h
  · rename_i q; cases h
    show (if _ then _ else _) = _
    rw [List.length_map, List.length_map, if_pos q, ← List.map_append]; rfl
  · cases h
theorem rs_catO (e : α → D) {d1 : D} {f : En → R D} {xs ys : List α} {k : List α → TF τ σ ρ} (q1 : d1 = eL e xs) (hl : env[j]? = some (.ow d1)) (hf : f env = .ok (eL e ys)) (h : ∀ zs, RS pl ml pm mk er (G ((env.set j .un).set i (.ow (eL e zs)))) (k zs)) (hi : Nat.blt i env.length = true := by rfl) : RS pl ml pm mk er (sSeq (sCatO i j f) G env) (obind (extO xs ys) k) := by
  cases q : extO xs ys with
  | none => trivial
  | some zs =>
    refine seq_nx ?_ (h zs)
    unfold sCatO
    rw [hl, q1]
    simp only
    rw [hf, onE_ok]
    simp only [addS_L q]
    rw [if_pos (lt_of hi)]
theorem rs_retC (e : α → D) {d1 d2 : D} {f : En → R D} {xs ys zs : List α} (q1 : d1 = eL e xs) (q2 : d2 = eL e ys) (h1 : env[i]? = some (.ow d1)) (h2 : env[j]? = some (.ow d2)) (hij : Nat.beq i j = false) (hf : f env = .ok (eL e zs)) {r : List α → ρ} (hr : ∀ w, eL e w = er (r w)) : RS pl ml pm mk er (sRetC i j f env) (obind (extO xs ys) fun a => obind (extO a zs) fun b => .rt (r b) : TF τ σ ρ) := by
  cases q : extO xs ys with
  | none => trivial
  | some a =>
    cases q' : extO a zs with
    | none => simp only [obind_some, q']; trivial
    | some b =>
      simp only [obind_some, q']
      show sRetC i j f env = .rt (er (r b))
      unfold sRetC
      rw [h1, h2, q1, q2]
      simp only [addS_L q]
      rw [if_pos (fun c => by subst c; simp at hij), hf, onE_ok]
      simp only [addS_L q']
      rw [hr]
end
end TL
set_option Elab.async false
set_option linter.all false
set_option maxRecDepth 100000
set_option maxHeartbeats 2000000
namespace TL
open PySem PySem.Spec PyProof.Rows L2 DL
variable {α β γ δ σ τ ρ σ1 : Type}
/-! ### lists held fast -/
def eY (e : α → D) (xs : List α) : D := .fl (xs.map e)
theorem im_Y {e : α → D} (h : ∀ x, imm (e x) = true) (xs : List α) : imm (eY e xs) = true := by
  simp only [eY, imm, immAll_all, List.all_eq_true]
  intro d hd; obtain ⟨x, _, rfl⟩ := List.mem_map.mp hd; exact h x
theorem o_ixY {e : α → D} {xs : List α} {i : Int} {v : α} (h : L2.atI xs i = some v) : idxD (eY e xs) (.int i) = some (e v) := by
  show (items (eY e xs)).bind (fun xs => L2.atI xs i) = _
  simp only [eY, items, Option.bind_some, atI_map, h]; rfl
theorem o_lenY {e : α → D} (xs : List α) : lenF [eY e xs] = some (.int (xs.length : Int)) := by simp [lenF, lenB, eY, items]
theorem w_Y {e : α → D} (xs : List α) : iterD (eY e xs) = some (xs.map e) := nr rfl
theorem o_sortY {e : α → D} {xs ys : List α} (h : sortO e xs = some ys) : sortF [eY e xs] = some (eL e ys) := o_sort h rfl
theorem o_addYL {e : α → D} {xs ys zs : List α} (h : extO xs ys = some zs) : addD (eY e xs) (eL e ys) = some (eL e zs) := by
  unfold extO at h; split at h
  · cases h; rename_i c; simp [addD, eL, eY, c]
  · cases h
/-! ### instances held fast -/
mutual
theorem frz_imm : ∀ d : D, imm d = true → frzD d = some d
  | .non, _ => rfl
  | .bl _, _ => rfl
  | .int _, _ => rfl
  | .str _, _ => rfl
  | .ty _, _ => rfl
  | .tup ds, h => by simp only [imm] at h; simp only [frzD, frzA_imm ds h, Option.map_some]
  | .kt ds, h => by simp only [imm] at h; simp only [frzD, frzA_imm ds h, Option.map_some]
  | .lst ds, h => by simp [imm] at h
  | .fz ds, h => by simp only [imm] at h; simp only [frzD, frzA_imm ds h, Option.map_some]
  | .dk _ _, h => by simp [imm] at h
  | .dt _ _, h => by simp [imm] at h
  | .ins _ _ _ _, h => by simp [imm] at h
  | .fi c fs ds, h => by simp only [imm] at h; simp only [frzD, frzA_imm ds h, Option.map_some]
  | .io _ _, h => by simp [imm] at h
  | .fl ds, h => by simp only [imm] at h; simp only [frzD, frzA_imm ds h, Option.map_some]
theorem frzA_imm : ∀ ds : List D, immAll ds = true → frzA ds = some ds
  | [], _ => rfl
  | d :: ds, h => by
    simp only [immAll, Bool.and_eq_true] at h
    simp only [frzA, frz_imm d h.1, frzA_imm ds h.2, Option.bind_some, Option.map_some]
end
def Fz (e e' : α → D) : Prop := ∀ x, frzD (e x) = some (e' x)
theorem fz_imm {e : α → D} (h : ∀ x, imm (e x) = true) : Fz e e := fun x => frz_imm _ (h x)
theorem fz_L {e e' : α → D} (h : Fz e e') : Fz (eL e) (eY e') := fun xs => by
  have : frzA (xs.map e) = some (xs.map e') := by
    induction xs with
    | nil => rfl
    | cons x xs ih => simp only [List.map_cons, frzA, h x, ih, Option.bind_some, Option.map_some]
  simp only [eL, eY, frzD, this, Option.map_some]
theorem fzA_nil : frzA [] = some [] := rfl
theorem fzA_cons {d d' : D} {ds ds' : List D} (h : frzD d = some d') (h2 : frzA ds = some ds') : frzA (d :: ds) = some (d' :: ds') := by
  simp only [frzA, h, h2, Option.bind_some, Option.map_some]
theorem fz_ins {c : Str} {id : Option Nat} {fs : List Str} {ds ds' : List D} (h : frzA ds = some ds') : frzD (.ins c id fs ds) = some (.fi c fs ds') := by
  simp only [frzD, h, Option.map_some]
theorem im_fi {c : Str} {fs : List Str} {ds : List D} (h : immAll ds = true) : imm (.fi c fs ds) = true := by simp only [imm, h]
theorem imA_cons {d : D} {ds : List D} (h : imm d = true) (h2 : immAll ds = true) : immAll (d :: ds) = true := by simp only [immAll, h, h2, Bool.and_self]
theorem imA_nil : immAll [] = true := rfl
section
variable {env : En} {f g : En → R D} {x y z d : D}
theorem p_frz {d' : D} (q : frzD d = some d') (hf : f env = .ok d) : eFrz f env = .ok d' := by
  show (f env >>= fun d => R.of (frzD d)) = _
  rw [hf, R.bind_ok, q]; rfl
theorem rg_frz {e e' : α → D} {t : R α} (q : Fz e e') (hf : RG e (f env) t) : RG e' (eFrz f env) t := by
  cases t with
  | ok v => exact p_frz (q v) hf
  | ex c => show (f env >>= fun d => R.of (frzD d)) = _; rw [show f env = .ex c from hf]; rfl
  | no => trivial
end
def decFi (c : Str) (fs : List Str) (g : List D → Option α) : D → Option α
  | .fi c' fs' xs => if c' = c ∧ fs' = fs then g xs else none
  | _ => none
/-! ### enumerate -/
theorem enumL_map {α β : Type} (f : α → β) (xs : List α) : enumL (xs.map f) = (enumL xs).map fun p => (p.1, f p.2) := by
  apply List.ext_getElem?
  intro i
  rw [enumL_get, List.getElem?_map, List.getElem?_map, enumL_get]
  cases xs[i]? <;> rfl
theorem enumD_map {e : α → D} (xs : List α) : enumD (xs.map e) = (enumL xs).map (e2 D.int e) := by
  unfold enumD
  rw [enumL_map, List.map_map]; rfl
theorem i_enum {env : En} {f : En → R D} {e : α → D} {xs : List α} {d : D} (h : items d = some (xs.map e)) (hf : f env = .ok d) : eEnum f env = .ok ((enumL xs).map (e2 D.int e)) := by
  show (f env >>= fun d => R.of ((items d).map enumD)) = _
  rw [hf, R.bind_ok, h]
  show R.of (some (enumD (xs.map e))) = _
  rw [enumD_map]; rfl
/-! ### methods that change their instance -/
def RIOb (fs : List Str) (ev : σ → List D) (o : Option (Option Bool × List Str × List D)) : R (Bool × σ) → Prop
  | .ok x => o = some (some x.1, fs, ev x.2)
  | _ => True
def RIOu (fs : List Str) (ev : σ → List D) (o : Option (Option Bool × List Str × List D)) : R σ → Prop
  | .ok x => o = some (none, fs, ev x)
  | _ => True
theorem RIOb.opt {fs : List Str} {ev : σ → List D} {o : Option (Option Bool × List Str × List D)} {t : R (Bool × σ)} {v : Bool × σ} (h : RIOb fs ev o t) (q : TL.opt t = some v) : o = some (some v.1, fs, ev v.2) := by
  rw [opt_some q] at h; exact h
theorem RIOu.opt {fs : List Str} {ev : σ → List D} {o : Option (Option Bool × List Str × List D)} {t : R σ} {v : σ} (h : RIOu fs ev o t) (q : TL.opt t = some v) : o = some (none, fs, ev v) := by
  rw [opt_some q] at h; exact h
theorem rf_iob {c : Str} {n m : Nat} {G : En → Fl} {fs : List Str} {ev : σ → List D} {xs ds : List D} {t : TF Unit Empty (Bool × σ)} (hn : ds.length = n)
    (h : ∀ i, RS (fun _ => []) (fun _ => []) (fun _ => []) (fun s => nomatch s) (fun x : Bool × σ => .io (some x.1) (.ins c (some i) fs (ev x.2))) (G (startIO c m i fs xs ds)) t) : RIOb fs ev (mkIO c n m G (.ins c none fs xs :: ds)) t.run' := by
  cases t with
  | nx s => exact nomatch s
  | rt x =>
    refine mkIO_eq ⟨rfl, hn, fun i => ?_⟩
    have q : G (startIO c m i fs xs ds) = .rt (.io (some x.1) (.ins c (some i) fs (ev x.2))) := h i
    rw [q]
    rfl
  | _ => trivial
theorem rf_iou {c : Str} {n m : Nat} {G : En → Fl} {fs : List Str} {ev : σ → List D} {xs ds : List D} {t : TF Unit σ Unit} (hn : ds.length = n)
    (h : ∀ i, RS (fun _ => []) (fun _ => []) (fun e => e.take 1) (fun s => [.ow (.ins c (some i) fs (ev s))]) eN (G (startIO c m i fs xs ds)) t) : RIOu fs ev (mkIO c n m G (.ins c none fs xs :: ds)) t.runI := by
  cases t with
  | nx s =>
    refine mkIO_eq ⟨rfl, hn, fun i => ?_⟩
    obtain ⟨e, h1, h2⟩ := h i
    rw [h1]
    refine ⟨rfl, ?_⟩
    cases e with
    | nil => simp at h2
    | cons a e => simp at h2; simp [h2]
  | _ => trivial
theorem p_io {i n : Nat} {c m : Str} {F : List D → Option (Option Bool × List Str × List D)} {g : En → R (List D)} {env : En} {id : Option Nat} {fs fs' : List Str} {xs xs' ds : List D} {b : Option Bool} (hi : env[i]? = some (.ow (.ins c id fs xs))) (hc : fs.contains m = false) (hg : g (env.set i .un) = .ok ds) (hF : F (.ins c none fs xs :: ds) = some (b, fs', xs')) (hn : ds.length = n := by rfl) :
    eIO i c m n F g env = some (b, env.set i (.ow (.ins c id fs' xs'))) := by
  unfold eIO
  rw [hi]; simp only
  rw [if_pos ⟨trivial, hc⟩, hg]; simp only
  rw [if_pos hn, hF]; rfl
section
variable {pl : En → En} {ml : τ → En} {pm : En → En} {mk : σ → En} {er : ρ → D} {env : En} {G : En → Fl}
theorem rs_retIO {f : En → R D} {x : ρ} {b : Bool} {sd : D} (h0 : env[0]? = some (.ow sd)) (hf : f env = .ok (.bl b)) (he : er x = .io (some b) sd) : RS pl ml pm mk er (sRetIO f env) (.rt x) := by
  show sRetIO f env = .rt (er x)
  unfold sRetIO
  rw [hf, onE_ok, h0, he]
theorem rs_doM {F : En → Option (Option Bool × En)} {a : Option α} {k : α → TF τ σ ρ} {b : α → Option Bool} {en : α → En} (hF : ∀ y, a = some y → F env = some (b y, en y)) (h : ∀ y, RS pl ml pm mk er (G (en y)) (k y)) : RS pl ml pm mk er (sSeq (sDoM F) G env) (obind a k) := by
  cases a with
  | none => trivial
  | some y => exact seq_nx (by unfold sDoM; rw [hF y rfl]) (h y)
theorem rs_ifM {F : En → Option (Bool × En)} {S T : En → Fl} {a : Option α} {b : α → Bool} {en : α → En} {tA tB : α → TF τ σ ρ} (hF : ∀ y, a = some y → F env = some (b y, en y)) (hA : ∀ y, RS pl ml pm mk er (S (en y)) (tA y)) (hB : ∀ y, RS pl ml pm mk er (T (en y)) (tB y)) :
    RS pl ml pm mk er (sIfM F S T env) (obind a fun y => if b y = true then tA y else tB y) := by
  cases a with
  | none => trivial
  | some y =>
    unfold sIfM
    rw [hF y rfl]
    simp only [obind_some]
    cases b y with
    | true => exact hA y
    | false => exact hB y
/-- if e: a block that does not go on; e changes an instance -/
theorem rs_ifMX {F : En → Option (Bool × En)} {S : En → Fl} {a : Option α} {b : α → Bool} {en : α → En} {tA : α → TF τ Empty ρ} {tB : α → TF τ σ ρ} {pm0 : En → En} {mk0 : Empty → En} (hF : ∀ y, a = some y → F env = some (b y, en y)) (hA : ∀ y, RS pl ml pm0 mk0 er (S (en y)) (tA y)) (hB : ∀ y, RS pl ml pm mk er (G (en y)) (tB y)) :
    RS pl ml pm mk er (sSeq (sIfM F S sNil) G env) (obind a fun y => if b y = true then TF.up (tA y) else tB y) := by
  cases a with
  | none => trivial
  | some y =>
    have e : sSeq (sIfM F S sNil) G env = if b y = true then sSeq S G (en y) else G (en y) := by
      rw [sSeq_eq]
      unfold sIfM
      rw [hF y rfl]
      simp only
      cases b y <;> simp [sSeq_eq, sNil]
    rw [e]
    simp only [obind_some]
    cases b y with
    | true =>
      simp only [if_true]
      have q := hA y
      revert q
      cases tA y with
      | nx s => exact nomatch s
      | rt x => intro q; show sSeq S G (en y) = _; rw [sSeq_eq, show S (en y) = .rt (er x) from q]
      | bk s => intro ⟨e, q, r⟩; exact ⟨e, by rw [sSeq_eq, q], r⟩
      | ct s => intro ⟨e, q, r⟩; exact ⟨e, by rw [sSeq_eq, q], r⟩
      | ex c => intro ⟨e, q⟩; exact ⟨e, by rw [sSeq_eq, q]⟩
      | no => intro q; trivial
    | false => simpa using hB y
end
theorem p_mb {F : En → Option (Option Bool × En)} {env e : En} {b : Bool} (h : F env = some (some b, e)) : eMB F env = some (b, e) := by unfold eMB; rw [h]
theorem p_mnot {F : En → Option (Bool × En)} {env e : En} {b : Bool} (h : F env = some (b, e)) : eMNot F env = some (!b, e) := by unfold eMNot; rw [h]; rfl
def twhileM : Nat → σ1 → (σ1 → Option (Bool × σ1)) → (σ1 → TF σ1 σ1 ρ) → TF τ σ1 ρ
  | 0, _, _, _ => .no
  | n + 1, s, c, b => match c s with
    | some (true, s1) => match b s1 with
      | .nx s' => twhileM n s' c b
      | .ct s' => twhileM n s' c b
      | .bk s' => .nx s'
      | .rt r => .rt r
      | .ex c => .ex c
      | .no => .no
    | some (false, s1) => .nx s1
    | none => .no
/-! ### xs[i] += e -/
def augO (xs : List Int) (k b : Int) : Option (List Int) := if 0 ≤ k then (xs[k.toNat]?).map fun a => xs.set k.toNat (a + b) else none
theorem rs_augP {pl : En → En} {ml : τ → En} {pm : En → En} {mk : σ → En} {er : ρ → D} {env : En} {G : En → Fl} {i : Nat} {p : PX} {r : D} {st : List Stp} {fk f : En → R D} {eR : β → D} {xs : List Int} {k b : Int} {op : Int → Int → Int} {up : List Int → D} {U : List Int → β} {K : β → TF τ σ ρ} {b' : Int} (h : RPt (eL D.int) i p env r st xs up) (hu : ∀ w, up w = eR (U w)) (hf : f env = .ok (.int b)) (hk : fk env = .ok (.int k)) (ho : ∀ a, op a b = a + b')
    (hG : ∀ z, RS pl ml pm mk er (G (env.set i (.ow (eR z)))) (K z)) : RS pl ml pm mk er (sSeq (sAugP i p fk op f) G env) (obind (augO xs k b') fun ys => tlet (U ys) K) := by
  unfold augO
  split
  · rename_i hk0
    cases hx : xs[k.toNat]? with
    | none => trivial
    | some a =>
      refine seq_nx ?_ (hG _)
      unfold sAugP
      rw [h.res, onE_ok, hk, onE_ok]
      have e1 : (eL D.int xs) = .lst (xs.map D.int) := rfl
      simp only [e1]
      rw [if_pos hk0, List.getElem?_map, hx]
      simp only [Option.map_some]
      rw [hf, onE_ok]
      simp only [h.own, ho]
      have q := h.upd (xs.set k.toNat (a + b'))
      have e2 : (eL D.int (xs.set k.toNat (a + b'))) = .lst ((xs.map D.int).set k.toNat (.int (a + b'))) := by simp [eL, List.map_set]
      rw [e2] at q
      rw [q, hu]
  · trivial
end TL
namespace TL
open PySem PySem.Spec PyProof.Rows L2 DL
variable {α β γ δ σ τ ρ σ1 : Type}
theorem wloopM_tf {pl : En → En} {ml : τ → En} {ms : List Nat} {mk1 : σ1 → En} {er : ρ → D} {t : En → Option (Bool × En)} {F : En → Fl} {c : σ1 → Option (Bool × σ1)} {tb : σ1 → TF σ1 σ1 ρ} (hc : ∀ s b s1, c s = some (b, s1) → t (mk1 s) = some (b, mk1 s1)) (hb : ∀ s, RS (maskE ms) mk1 (maskE ms) mk1 er (F (mk1 s)) (tb s)) : ∀ (n : Nat) (s : σ1), RS pl ml id mk1 er (wloopM t (sMask ms F) n (mk1 s)) (twhileM n s c tb)
  | 0, _ => trivial
  | n + 1, s => by
    unfold wloopM twhileM
    cases q : c s with
    | none => trivial
    | some r =>
      obtain ⟨b, s1⟩ := r
      rw [hc s b s1 q]
      cases b with
      | false => exact ⟨mk1 s1, rfl, rfl⟩
      | true =>
        simp only
        have h := hb s1
        unfold sMask
        revert h
        cases tb s1 with
        | nx s' => intro ⟨e, h1, h2⟩; rw [h1]; simp only [Fl.mask, h2]; exact wloopM_tf hc hb n s'
        | ct s' => intro ⟨e, h1, h2⟩; rw [h1]; simp only [Fl.mask, h2]; exact wloopM_tf hc hb n s'
        | bk s' => intro ⟨e, h1, h2⟩; rw [h1]; exact ⟨_, rfl, h2⟩
        | rt r => intro h1; rw [show F (mk1 s1) = .rt (er r) from h1]; rfl
        | ex x => intro ⟨e, h1⟩; rw [h1]; exact ⟨_, rfl⟩
        | no => intro _; trivial
theorem rs_whileM {pl : En → En} {ml : τ → En} {pm : En → En} {mk : σ → En} {er : ρ → D} {env : En} {G : En → Fl} {ms0 ms : List Nat} {n : Nat} {t : En → Option (Bool × En)} {F : En → Fl} (mk1 : σ1 → En) {s0 : σ1} {c : σ1 → Option (Bool × σ1)} {tb : σ1 → TF σ1 σ1 ρ} {k : σ1 → TF τ σ ρ} (h0 : maskE ms0 env = mk1 s0) (hc : ∀ s b s1, c s = some (b, s1) → t (mk1 s) = some (b, mk1 s1))
    (hb : ∀ s, RS (maskE ms) mk1 (maskE ms) mk1 er (F (mk1 s)) (tb s)) (h : ∀ s, RS pl ml pm mk er (G (mk1 s)) (k s)) : RS pl ml pm mk er (sSeq (sPre ms0 (sWhileM n t (sMask ms F))) G env) ((twhileM n s0 c tb : TF τ σ1 ρ).bind k) := by
  refine bind_after (mk1 := mk1) ?_ h
  unfold sPre sWhileM; rw [h0]
  exact wloopM_tf hc hb n s0
theorem co_4 {ε ζ α' β' γ' δ' : Type} {e : α → D} {e' : α' → D} {f : β → D} {f' : β' → D} {g : ε → D} {g' : γ' → D} {k : ζ → D} {k' : δ' → D} {c : α → α'} {c2 : β → β'} {c3 : ε → γ'} {c4 : ζ → δ'} (h : ∀ x, e x = e' (c x)) (h2 : ∀ x, f x = f' (c2 x)) (h3 : ∀ x, g x = g' (c3 x)) (h4 : ∀ x, k x = k' (c4 x)) (x : α × β × ε × ζ) : e4 e f g k x = e4 e' f' g' k' (c x.1, c2 x.2.1, c3 x.2.2.1, c4 x.2.2.2) := by simp [e4, h, h2, h3, h4]
end TL
namespace TL
open PySem PySem.Spec PyProof.Rows L2 DL
variable {α β γ δ σ τ ρ σ1 : Type}
theorem rs_setPut {pl : En → En} {ml : τ → En} {pm : En → En} {mk : σ → En} {er : ρ → D} {env : En} {G : En → Fl} {i j : Nat} {fk : En → R D} {ga : En → R (List D)} {d1 d2 : D} (e : α → D) (e' : β → D) (hm : ∀ v, imm (e v) = true) {xs : List α} {x : α} {y : β} {n : Int} {k : List α → β → TF τ σ ρ} (q1 : d1 = e x) (q2 : d2 = e' y) (hl : env[j]? = some (.ow (eL e xs))) (hg : ga env = .ok [d1, d2]) (hk : fk env = .ok (.int n)) (h : ∀ ys z, RS pl ml pm mk er (G ((env.set j (.ow (eL e ys))).set i (.ow (e' z)))) (k ys z)) (hi : Nat.blt i env.length = true := by rfl) (hij : Nat.beq i j = false := by rfl) :
    RS pl ml pm mk er (sSeq (sSetPut j i fk ga) G env) (obind (setO xs n x) fun a => tlet y fun b => k a b) := by
  unfold setO
  cases q : L2.ixN xs.length n with
  | none => trivial
  | some m =>
    refine seq_nx ?_ (h _ _)
    unfold sSetPut; rw [hg, onE_ok]
    simp only
    unfold onList; rw [hl]; simp only [eL]; rw [hk, onE_ok]
    unfold setPut; simp only [List.length_map, q]
    have hall : immAll (xs.map e) = true := by
      rw [immAll_all, List.all_eq_true]
      intro d hd; obtain ⟨z, _, rfl⟩ := List.mem_map.mp hd; exact hm z
    rw [if_pos ⟨hall, by rw [q1]; exact hm x, Nat.le_of_ble_eq_true hi, fun z => by subst z; simp at hij⟩, q1, q2, List.map_set]
end TL
namespace TL
open PySem PySem.Spec PyProof.Rows L2 DL
section
variable {κ ν β : Type} [DecidableEq κ]
/-! ### typed dict comprehensions -/
def tdcM : List β → (β → Option Bool) → (β → Option κ) → (β → Option ν) → List (κ × ν) → Option (List (κ × ν))
  | [], _, _, _, m => some m
  | x :: xs, p, fk, fv, m => (p x).bind fun b => if b = true then (fk x).bind fun k => (fv x).bind fun v => (putM m k v).bind fun m' => tdcM xs p fk fv m' else tdcM xs p fk fv m
theorem tdc_M {e : κ → D} {ev : ν → D} {mk : List (κ × ν) → D} (st : ∀ k m v m', putM m k v = some m' → storeD (mk m) (e k) (ev v) = some (mk m')) {p : β → Option Bool} {fk : β → Option κ} {fv : β → Option ν} : ∀ {xs : List β} {m m' : List (κ × ν)}, tdcM xs p fk fv m = some m' → tdcomp xs p (fun x => (fk x).map e) (fun x => (fv x).map ev) (mk m) = some (mk m')
  | [], m, m', h => by cases h; rfl
  | x :: xs, m, m', h => by
    simp only [tdcM] at h
    obtain ⟨b, hb, h⟩ := ob h
    simp only [tdcomp, hb, Option.bind_some]
    cases b with
    | true =>
      rw [if_pos rfl] at h ⊢
      obtain ⟨k, hk, h⟩ := ob h
      obtain ⟨v, hv, h⟩ := ob h
      obtain ⟨m1, hm, h⟩ := ob h
      simp only [hk, hv, Option.map_some, Option.bind_some, st k m v m1 hm]
      exact tdc_M st h
    | false =>
      rw [if_neg (by simp)] at h ⊢
      exact tdc_M st h
theorem p_dcompM {env : En} {new : D} {vs : List Nat} {T : Tg} {fi : En → R (List D)} {cc : En → R Bool} {gk gv : En → R D} (eb : β → D) {e : κ → D} {ev : ν → D} {mk : List (κ × ν) → D} (st : ∀ k m v m', putM m k v = some m' → storeD (mk m) (e k) (ev v) = some (mk m')) {xs : List β} {p : β → Option Bool} {fk : β → Option κ} {fv : β → Option ν} {r : List (κ × ν)} (hv : tdcM xs p fk fv [] = some r) (h0 : new = mk []) (hi : fi env = .ok (xs.map eb))
    (h : ∀ x w, p x = some w → ∃ e', put T (eb x) (wipeE env vs) = some e' ∧ cc e' = .ok w ∧ (∀ v, fk x = some v → gk e' = .ok (e v)) ∧ ∀ v, fv x = some v → gv e' = .ok (ev v)) : eDComp new vs T fi cc gk gv env = .ok (mk r) := by
  subst h0
  refine p_dcomp eb (tdc_M st hv) hi fun x w hw => ?_
  obtain ⟨e', h1, h2, h3, h4⟩ := h x w hw
  refine ⟨e', h1, h2, fun v q => ?_, fun v q => ?_⟩
  · obtain ⟨k, hk, rfl⟩ := Option.map_eq_some_iff.mp q
    exact h3 k hk
  · obtain ⟨k, hk, rfl⟩ := Option.map_eq_some_iff.mp q
    exact h4 k hk
end
section
variable {α σ τ ρ : Type} {pl : En → En} {ml : τ → En} {pm : En → En} {mk : σ → En} {er : ρ → D} {env : En} {G : En → Fl} {i j : Nat}
theorem rs_catOT (e : α → D) {d1 : D} {f : En → R D} {xs ys : List α} {k : List α → TF τ σ ρ} (q1 : d1 = eT e xs) (hl : env[j]? = some (.ow d1)) (hf : f env = .ok (eT e ys)) (h : ∀ zs, RS pl ml pm mk er (G ((env.set j .un).set i (.ow (eT e zs)))) (k zs)) (hi : Nat.blt i env.length = true := by rfl) : RS pl ml pm mk er (sSeq (sCatO i j f) G env) (obind (extO xs ys) k) := by
  cases q : extO xs ys with
  | none => trivial
  | some zs =>
    refine seq_nx ?_ (h zs)
    unfold sCatO
    rw [hl, q1]
    simp only
    rw [hf, onE_ok]
    simp only [addS_T q]
    rw [if_pos (lt_of hi)]
end
/-! ### a tuple with own slots is handed back -/
theorem pmt_nil {env : En} : evM [] env = .ok [] := nr rfl
theorem pmt_own {env : En} {i : Nat} {d d' : D} {ps : List PM} {ds : List D} (q : d = d') (h : env[i]? = some (.ow d)) (t : evM ps env = .ok ds) : evM (.inl i :: ps) env = .ok (d' :: ds) := by
  unfold evM; rw [h, q]; simp only; rw [t]; rfl
theorem pmt_new {env : En} {f : En → R D} {d : D} {ps : List PM} {ds : List D} (h : f env = .ok d) (t : evM ps env = .ok ds) : evM (.inr f :: ps) env = .ok (d :: ds) := by
  unfold evM; rw [h]
  show (evM ps env >>= fun ds => .ok (d :: ds)) = _
  rw [t]; rfl
theorem rs_retT {pl : En → En} {ml : τ → En} {pm : En → En} {mk : σ → En} {er : ρ → D} {env : En} {ps : List PM} {ds : List D} {x : ρ} (hn : (inls ps).Nodup) (hl : Nat.ble ds.length 1000 = true) (h : evM ps env = .ok ds) (q : .tup ds = er x) : RS pl ml pm mk er (sRetT ps env) (.rt x) := by
  show sRetT ps env = .rt (er x)
  unfold sRetT
  rw [if_pos hn, h]
  have hz : ds.length ≤ sizeLine := by have := Nat.ble_eq.mp hl; show ds.length ≤ 16777216; omega
  show onE (R.of (if ds.length ≤ sizeLine then some (.tup ds) else none)) env (fun d => .rt d) = _
  rw [if_pos hz, ← q]; rfl
/-! ### xs.index(y), d.update(e) -/
def indexO (xs : List Int) (k : Int) : Option Int := (findI xs k).map fun (j : Nat) => (j : Int)
theorem p_index {env : En} {f g : En → R D} {xs : List Int} {k v : Int} (h : indexO xs k = some v) (hf : f env = .ok (eL D.int xs)) (hg : g env = .ok (.int k)) : eIndex f g env = .ok (.int v) := by
  unfold indexO at h
  obtain ⟨j, hj, rfl⟩ := Option.map_eq_some_iff.mp h
  unfold eIndex
  rw [hf]
  show (g env >>= fun d => R.of (indexD (.lst (xs.map D.int)) d)) = _
  rw [hg]
  show R.of (indexD (.lst (xs.map D.int)) (.int k)) = _
  unfold indexD
  simp only [intsD_map, Option.bind_some, hj, Option.map_some]; rfl
section
variable {κ ν : Type} [DecidableEq κ]
def updM (m m2 : List (κ × ν)) : Option (List (κ × ν)) := if m.isEmpty = false ∧ m.length + m2.length ≤ 1000000 then some (m2.foldl (fun a p => putA a p.1 p.2) m) else none
theorem putA_len (m : List (κ × ν)) (k : κ) (v : ν) : (putA m k v).length ≤ m.length + 1 := by
  unfold putA; split
  · rw [List.length_map]; omega
  · simp
theorem updL_M {ek : κ → List Key} {ev : ν → D} (inj : ∀ x y, ek x = ek y → x = y) (hm : ∀ v, imm (ev v) = true) : ∀ (m2 m : List (κ × ν)), m.length + m2.length ≤ 1000000 → updL (m.map fun p => ek p.1) (m.map fun p => ev p.2) (m2.map fun p => ek p.1) (m2.map fun p => ev p.2) = some (eMt ek ev (m2.foldl (fun a p => putA a p.1 p.2) m))
  | [], m, _ => rfl
  | p :: m2, m, hl => by
    have hz : m.length < sizeLine := by show m.length < 16777216; simp only [List.length_cons] at hl; omega
    have hp : putM m p.1 p.2 = some (putA m p.1 p.2) := by unfold putM; rw [if_pos hz]
    have e := put_map (mk := D.dt) inj hm hp
    simp only [List.map_cons, updL, e, Option.bind_some]
    have := putA_len m p.1 p.2
    exact updL_M inj hm m2 (putA m p.1 p.2) (by simp only [List.length_cons] at hl; omega)
theorem rs_updP {pl pm : En → En} {ml : τ → En} {mk : σ → En} {er : ρ → D} {env : En} {G : En → Fl} {i j : Nat} {p : PX} {r : D} {st : List Stp} {ek : κ → List Key} {ev : ν → D} {eR : β → D} {m m2 : List (κ × ν)} {upf : List (κ × ν) → D} {U : List (κ × ν) → β} {k : β → TF τ σ ρ} (inj : ∀ x y, ek x = ek y → x = y) (hm : ∀ v, imm (ev v) = true)
    (h : RPt (eMt ek ev) i p env r st m upf) (hu : ∀ w, upf w = eR (U w)) (hj : env[j]? = some (.ow (eMt ek ev m2))) (hij : Nat.beq i j = false) (hG : ∀ z, RS pl ml pm mk er (G (env.set i (.ow (eR z)))) (k z)) :
    RS pl ml pm mk er (sSeq (sUpdP i p j) G env) (obind (updM m m2) fun c => tlet (U c) k) := by
  unfold updM
  split
  · rename_i hc
    refine seq_nx ?_ (hG _)
    unfold sUpdP onP
    rw [h.res, onE_ok, hj]
    simp only
    have hne : i ≠ j := fun z => by subst z; simp at hij
    rw [if_neg hne]
    have e : updD (eMt ek ev m) (eMt ek ev m2) = some (eMt ek ev (m2.foldl (fun a p => putA a p.1 p.2) m)) := by
      show (if _ then _ else _) = _
      rw [if_pos ⟨by have := hc.1; cases m with | nil => exact this | cons _ _ => rfl, by rw [List.length_map, List.length_map]; exact hc.2, by rw [immAll_all, List.all_eq_true]; intro d hd; obtain ⟨x, _, rfl⟩ := List.mem_map.mp hd; exact hm _⟩]
      exact updL_M inj hm m2 m hc.2
    rw [e]
    simp only
    rw [putBack_eq h.own, h.upd, hu]
  · trivial
end
end TL
set_option Elab.async false
set_option linter.all false
set_option maxRecDepth 100000
set_option maxHeartbeats 4000000
namespace LW
open PySem PySem.Spec PyProof.Rows L2 DL
noncomputable section
def top (i : Nat) : Stmt := PySem.Challenge.pw_hedgeways_k35_where_they_go.main.body.getD i (.Pass ⟨0, 0, 0, 0⟩)
abbrev s_law_draws_u : Stmt := top 19
abbrev N_law_draws_u : List Str := ["script", "many", "draws", "seed", "cell", "k", "number"]
def g_law_draws_u : En → Fl := (sSeq (sSetF 2 (eTop (eLst eNil)))
  (sSeq (sSetI 3 (eC (.int 7)))
  (sSeq (sPre [1, 1, 1, 1, 0, 0, 0] (sForF (.nm 4) (eIter (eTop (eSl (eVar 0) eNone (ePart (eC (.int 63))))))
  (sMask [1, 1, 1, 1, 0, 0, 0] (sSeq (sSetI 6 (eCall absF (eCons (eVar 4) eNil)))
  (sSeq (sSetI 3 (eOp modD (eCall intF (eCons (eOp addD (eOp addD (eOp mulD (eVar 3) (eC (.int 48271))) (eVar 6)) (eC (.int 11))) eNil)) (eC (.int 2147483647))))
  (sIf (eB (eOp geX (eVar 6) (eOp powD (eC (.int 10)) (eC (.int 18))))) (sPre [1, 1, 1, 1, 0, 0, 1] (sForF (.nm 5) (eRange rangeF1 (eCons (eC (.int 60)) eNil))
  (sMask [1, 1, 1, 1, 0, 0, 1] (sIf (eB (eOp gtD (eVar 6) (eC (.int 0)))) (sSeq (sAppI 2 (eOp modD (eCall intF (eCons (eVar 6) eNil)) (eC (.int 1009))))
  (sSetI 6 (eOp fdivD (eVar 6) (eC (.int 1009))))) sNil)))) (sAppI 2 (eOp modD (eOp fdivD (eCall intF (eCons (eOp addD (eOp mulD (eVar 3) (eC (.int 16807))) (eC (.int 5))) eNil)) (eC (.int 3))) (eC (.int 65521))))))))))
  (sSeq (sPre [0, 1, 1, 1, 0, 0, 0] (sForF (.nm 5) (eRange rangeF1 (eCons (eVar 1) eNil))
  (sMask [0, 1, 1, 1, 0, 0, 0] (sIf (eB (eOp ltD (eCall lenF (eCons (eVar 2) eNil)) (eVar 1))) (sSeq (sSetI 3 (eOp modD (eCall intF (eCons (eOp addD (eOp addD (eOp mulD (eVar 3) (eC (.int 69621))) (eVar 5)) (eC (.int 1))) eNil)) (eC (.int 2147483647))))
  (sAppI 2 (eOp modD (eOp fdivD (eCall intF (eCons (eVar 3) eNil)) (eC (.int 7))) (eC (.int 65521))))) sNil))))
  (sRet (eTop (eSl (eVar 2) eNone (ePart (eVar 1)))))))))
def f_law_draws_u : List D → R D := runD 2 7 g_law_draws_u
abbrev s_law_net_u : Stmt := top 20
abbrev N_law_net_u : List Str := ["draws", "at", "most", "size", "k", "rare", "kind", "pairs", "draw", "j"]
def g_law_net_u : En → Fl := (sSeq (sSetI 3 (eOp addD (eC (.int 1)) (eOp modD (eCall intF (eCons (eOp idxD (eVar 0) (eVar 1)) eNil)) (eVar 2))))
  (sSeq (sPars [5, 6, 7] (eCons (eImm (eOp addD (eC (.int 2)) (eOp modD (eCall intF (eCons (eOp idxD (eVar 0) (eOp addD (eVar 1) (eC (.int 1)))) eNil)) (eC (.int 4))))) (eCons (eImm (eOp modD (eCall intF (eCons (eOp idxD (eVar 0) (eOp addD (eVar 1) (eC (.int 2)))) eNil)) (eC (.int 4)))) (eCons (eTop (eLst eNil)) eNil))))
  (sSeq (sPre [1, 1, 0, 1, 0, 1, 1, 1, 0, 0] (sForF (.nm 4) (eRange rangeF1 (eCons (eVar 3) eNil))
  (sMask [1, 1, 0, 1, 0, 1, 1, 1, 0, 0] (sSeq (sSetI 8 (eCall intF (eCons (eOp idxD (eVar 0) (eOp addD (eOp addD (eVar 1) (eC (.int 3))) (eVar 4))) eNil)))
  (sSeq (sMaskN [1, 1, 0, 1, 1, 1, 1, 1, 1, 0] (sIf (eAndT (eB (eOp ltD (eVar 6) (eC (.int 2)))) (eB (eOp gtD (eVar 4) (eC (.int 0))))) (sAppI 7 (eTup (eCons (eOp modD (eVar 8) (eVar 4)) (eCons (eVar 4) eNil)))) sNil))
  (sSeq (sMaskN [1, 1, 0, 1, 1, 1, 1, 1, 1, 0] (sIf (eAndT (eB (eOp eqD (eVar 6) (eC (.int 2)))) (eB (eOp gtD (eVar 4) (eC (.int 0))))) (sAppI 7 (eTup (eCons (eOp subD (eVar 4) (eC (.int 1))) (eCons (eVar 4) eNil)))) sNil))
  (sPre [1, 1, 0, 1, 1, 1, 1, 1, 1, 0] (sForF (.nm 9) (eRange rangeF1 (eCons (eVar 4) eNil))
  (sMask [1, 1, 0, 1, 1, 1, 1, 1, 1, 0] (sIf (eAndT (eB (eOp eqD (eOp modD (eOp fdivD (eVar 8) (eOp addD (eVar 9) (eC (.int 2)))) (eOp addD (eVar 5) (eIf (eB (eOp eqD (eVar 6) (eC (.int 2)))) (eC (.int 4)) (eC (.int 0))))) (eC (.int 0)))) (eB (eOp neD (eVar 6) (eC (.int 1))))) (sAppI 7 (eTup (eCons (eVar 9) (eCons (eVar 4) eNil)))) sNil))))))))))
  (sSeq (sMaskN [0, 0, 0, 1, 0, 0, 0, 1, 0, 0] (sIf (eAndT (eB (eOp eqD (eVar 6) (eC (.int 2)))) (eB (eOp gtD (eVar 3) (eC (.int 2))))) (sAppI 7 (eTup (eCons (eC (.int 0)) (eCons (eOp subD (eVar 3) (eC (.int 1))) eNil)))) sNil))
  (sRet (eTop (eTup (eCons (eVar 3) (eCons (eCall tupleF (eCons (eSortSet (eVar 7)) eNil)) eNil)))))))))
def f_law_net_u : List D → R D := runD 3 10 g_law_net_u
abbrev s_law_times_u : Stmt := top 22
abbrev N_law_times_u : List Str := ["size", "ways", "best", "turn", "later", "one", "other", "row", "goes", "there", "away"]
def g_law_times_u : En → Fl := (sSeq (sSetF 2 (eComp [5] (.nm 5) (eRange rangeF1 (eCons (eVar 0) eNil)) eYes (eTop (eComp [6] (.nm 6) (eRange rangeF1 (eCons (eVar 0) eNil)) eYes (eIf (eB (eOp eqD (eVar 5) (eVar 6))) (eC (.int 0)) (eC (.int 1000)))))))
  (sSeq (sPre [1, 1, 1, 0, 0, 0, 0, 0, 0, 0, 0] (sForF (.nm 3) (eRange rangeF1 (eCons (eOp addD (eOp mulD (eVar 0) (eVar 0)) (eC (.int 1))) eNil))
  (sMask [1, 1, 1, 0, 0, 0, 0, 0, 0, 0, 0] (sSeq (sSetF 4 (eComp [7] (.nm 7) (eIter (eVar 2)) eYes (eTop (eCall listF (eCons (eVar 7) eNil)))))
  (sSeq (sPre [1, 1, 1, 0, 1, 0, 0, 0, 0, 0, 0] (sForF (.nm 5) (eRange rangeF1 (eCons (eVar 0) eNil))
  (sMask [1, 1, 1, 0, 1, 0, 0, 0, 0, 0, 0] (sPre [1, 1, 1, 0, 1, 1, 0, 0, 0, 0, 0] (sForF (.nm 6) (eRange rangeF1 (eCons (eVar 0) eNil))
  (sMask [1, 1, 1, 0, 1, 1, 0, 0, 0, 0, 0] (sIf (eB (eOp neD (eVar 5) (eVar 6))) (sSeq (sSetF 8 (eTop (eComp [9] (.nm 9) (eIter (eOp idxD (eVar 1) (eVar 5))) eYes (eIf (eB (eOp eqD (eVar 9) (eVar 6))) (eC (.int 0)) (eCall maxG (eCons (eComp [10] (.nm 10) (eIter (eOp idxD (eVar 1) (eVar 6))) eYes (eOp idxD (eOp idxD (eVar 2) (eVar 9)) (eVar 10))) eNil))))))
  (sSetP 4 (.x .v (eVar 5)) (eVar 6) (eImm (eCall minG (eCons (eC (.int 1000)) (eCons (eOp addD (eC (.int 1)) (eCall minG (eCons (eVar 8) eNil))) eNil)))))) sNil)))))))
  (sSeq (sIf (eB (eOp eqD (eVar 4) (eVar 2))) (sRetV 2) sNil)
  (sMove 2 4)))))))
  (sRetV 2)))
def f_law_times_u : List D → R D := runD 2 11 g_law_times_u
abbrev s_is_whole : Stmt := top 6
abbrev N_is_whole : List Str := ["value", "least", "most"]
def g_is_whole : En → Fl := (sRet (eImm (eAnd (eCall isiF (eCons (eVar 0) (eCons (eC (.ty "int")) eNil))) (eAnd (eNot (eCall isiF (eCons (eVar 0) (eCons (eC (.ty "bool")) eNil)))) (eCh leD leD (eVar 1) (eVar 0) (eVar 2))))))
def f_is_whole : List D → R D := runD 3 3 g_is_whole
abbrev s_are_pairs_u : Stmt := top 9
abbrev N_are_pairs_u : List Str := ["size", "value", "first", "second", "at", "one"]
def g_are_pairs_u : En → Fl := (sSeq (sIf (eOrT (eNotT (eB (eCall isiF (eCons (eVar 1) (eCons (eC (.ty "tuple")) eNil))))) (eNotT (eB (eCall allF (eCons (eComp [5] (.nm 5) (eIter (eVar 1)) eYes (eAnd (eCall isiF (eCons (eVar 5) (eCons (eC (.ty "tuple")) eNil))) (eOp eqD (eCall lenF (eCons (eVar 5) eNil)) (eC (.int 2))))) eNil))))) (sRet (eImm (eC (.bl false)))) sNil)
  (sSeq (sPre [1, 1, 0, 0, 0, 0] (sForS [1] (.tp [(.nm 2), (.nm 3)]) (eIter (eVar 1))
  (sMask [1, 1, 0, 0, 0, 0] (sIf (eOrT (eNotT (eB (eCallF 3 f_is_whole (eCons (eVar 2) (eCons (eC (.int 0)) (eCons (eOp subD (eVar 0) (eC (.int 1))) eNil)))))) (eOrT (eNotT (eB (eCallF 3 f_is_whole (eCons (eVar 3) (eCons (eC (.int 0)) (eCons (eOp subD (eVar 0) (eC (.int 1))) eNil)))))) (eB (eOp geX (eVar 2) (eVar 3))))) (sRet (eImm (eC (.bl false)))) sNil))))
  (sRet (eImm (eCall allF (eCons (eComp [4] (.nm 4) (eRange rangeF1 (eCons (eOp subD (eCall lenF (eCons (eVar 1) eNil)) (eC (.int 1))) eNil)) eYes (eOp ltD (eOp idxD (eVar 1) (eVar 4)) (eOp idxD (eVar 1) (eOp addD (eVar 4) (eC (.int 1)))))) eNil))))))
def f_are_pairs_u : List D → R D := runD 2 6 g_are_pairs_u
abbrev s_Net_init : Stmt := inClass (top 10) 0
abbrev N_Net_init : List Str := ["self", "size", "pairs", "first", "second", "_"]
def g_Net_init : En → Fl := (sSeq (sIf (eOrT (eNotT (eB (eCallF 3 f_is_whole (eCons (eVar 1) (eCons (eC (.int 1)) (eCons (eC (.int 24)) eNil)))))) (eNotT (eB (eCallF 2 f_are_pairs_u (eCons (eVar 1) (eCons (eVar 2) eNil)))))) (sRaise "BadNet") sNil)
  (sSeq (sFldF 0 "Net" "size" (eImm (eVar 1)))
  (sSeq (sFldF 0 "Net" "pairs" (eImm (eVar 2)))
  (sSeq (sFldF 0 "Net" "_near" (eComp [5] (.nm 5) (eRange rangeF1 (eCons (eVar 1) eNil)) eYes (eTop (eLst eNil))))
  (sPre [1, 0, 1, 0, 0, 0] (sForS [2] (.tp [(.nm 3), (.nm 4)]) (eIter (eVar 2))
  (sMask [1, 0, 1, 0, 0, 0] (sSeq (sAppP 0 (.x (.f .v "Net" "_near") (eVar 3)) (eImm (eVar 4)))
  (sAppP 0 (.x (.f .v "Net" "_near") (eVar 4)) (eImm (eVar 3)))))))))))
def f_Net_init : List D → R D := mkF "Net" 2 6 g_Net_init
abbrev s_law_ways_u : Stmt := top 21
abbrev N_law_ways_u : List Str := ["size", "pairs", "ways", "one", "other", "k", "row"]
def g_law_ways_u : En → Fl := (sSeq (sSetF 2 (eComp [5] (.nm 5) (eRange rangeF1 (eCons (eVar 0) eNil)) eYes (eTop (eLst (eCons (eVar 5) eNil)))))
  (sSeq (sPre [0, 1, 1, 0, 0, 0, 0] (sForS [1] (.tp [(.nm 3), (.nm 4)]) (eIter (eVar 1))
  (sMask [0, 1, 1, 0, 0, 0, 0] (sSeq (sAppP 2 (.x .v (eVar 3)) (eImm (eVar 4)))
  (sAppP 2 (.x .v (eVar 4)) (eImm (eVar 3)))))))
  (sRet (eComp [6] (.nm 6) (eIter (eVar 2)) eYes (eTop (eCall sortF (eCons (eVar 6) eNil)))))))
def f_law_ways_u : List D → R D := runD 2 7 g_law_ways_u
abbrev s_check_place : Stmt := top 11
abbrev N_check_place : List Str := ["net", "value"]
def g_check_place : En → Fl := (sIf (eNotT (eB (eCallF 3 f_is_whole (eCons (eVar 1) (eCons (eC (.int 0)) (eCons (eOp subD (eFld "Net" "size" (eVar 0)) (eC (.int 1))) eNil)))))) (sRaise "BadPlace") sNil)
def f_check_place : List D → R D := runD 2 2 g_check_place
abbrev s_Net_ways : Stmt := inClass (top 10) 2
abbrev N_Net_ways : List Str := ["self", "place"]
def g_Net_ways : En → Fl := (sRet (eTop (eCall tupleF (eCons (eCall sortF (eCons (eOp addD (eOp idxD (eFld "Net" "_near" (eVar 0)) (eVar 1)) (eLst (eCons (eVar 1) eNil))) eNil)) eNil))))
def f_Net_ways : List D → R D := runD 2 2 g_Net_ways
abbrev s_Times_best : Stmt := inClass (top 13) 2
abbrev N_Times_best : List Str := ["self", "chaser", "thief", "ways", "one"]
def g_Times_best : En → Fl := (sSeq (sSetF 3 (eTop (eComp [4] (.nm 4) (eIter (eMeth "Net" "ways" 2 f_Net_ways (eFld "Times" "net" (eVar 0)) (eCons (eVar 1) eNil))) (eB (eOp inD (eTup (eCons (eVar 4) (eCons (eVar 2) eNil))) (eFld "Times" "behind" (eVar 0)))) (eVar 4))))
  (sRet (eImm (eOp idxD (eCall minG (eCons (eComp [4] (.nm 4) (eIter (eVar 3)) eYes (eTup (eCons (eOp idxD (eFld "Times" "behind" (eVar 0)) (eTup (eCons (eVar 4) (eCons (eVar 2) eNil)))) (eCons (eVar 4) eNil)))) eNil)) (eC (.int 1))))))
def f_Times_best : List D → R D := runD 3 5 g_Times_best
abbrev s_chaser_goes_u : Stmt := top 14
abbrev N_chaser_goes_u : List Str := ["times", "chaser", "thief"]
def g_chaser_goes_u : En → Fl := (sSeq (sIf (eB (eOp inD (eVar 2) (eMeth "Net" "ways" 2 f_Net_ways (eFld "Times" "net" (eVar 0)) (eCons (eVar 1) eNil)))) (sRetV 2) sNil)
  (sSeq (sIf (eB (eOp ninD (eTup (eCons (eVar 1) (eCons (eVar 2) eNil))) (eFld "Times" "before" (eVar 0)))) (sRetV 1) sNil)
  (sRet (eMeth "Times" "best" 3 f_Times_best (eVar 0) (eCons (eVar 1) (eCons (eVar 2) eNil))))))
def f_chaser_goes_u : List D → R D := runD 3 3 g_chaser_goes_u
abbrev s_Times_step_u : Stmt := inClass (top 13) 1
abbrev N_Times_step_u : List Str := ["self", "turns", "later", "chaser", "thief", "one"]
def g_Times_step_u : En → Fl := (sSeq (sSetF 2 eDt)
  (sSeq (sPre [1, 1, 1, 0, 0, 0] (sForF (.nm 3) (eRange rangeF1 (eCons (eFld "Net" "size" (eFld "Times" "net" (eVar 0))) eNil))
  (sMask [1, 1, 1, 0, 0, 0] (sPre [1, 1, 1, 1, 0, 0] (sForF (.nm 4) (eRange rangeF1 (eCons (eFld "Net" "size" (eFld "Times" "net" (eVar 0))) eNil))
  (sMask [1, 1, 1, 1, 0, 0] (sIf (eB (eOp ninD (eTup (eCons (eVar 3) (eCons (eVar 4) eNil))) (eFld "Times" "before" (eVar 0)))) (sIf (eB (eCall anyF (eCons (eComp [5] (.nm 5) (eIter (eMeth "Net" "ways" 2 f_Net_ways (eFld "Times" "net" (eVar 0)) (eCons (eVar 3) eNil))) eYes (eOp inD (eTup (eCons (eVar 5) (eCons (eVar 4) eNil))) (eFld "Times" "behind" (eVar 0)))) eNil))) (sSetP 2 .v (eTup (eCons (eVar 3) (eCons (eVar 4) eNil))) (eImm (eOp addD (eVar 1) (eC (.int 1))))) sNil) sNil)))))))
  (sSeq (sUpdP 0 (.f .v "Times" "before") 2)
  (sSeq (sPre [1, 1, 1, 0, 0, 0] (sForF (.nm 3) (eRange rangeF1 (eCons (eFld "Net" "size" (eFld "Times" "net" (eVar 0))) eNil))
  (sMask [1, 1, 1, 0, 0, 0] (sPre [1, 1, 1, 1, 0, 0] (sForF (.nm 4) (eRange rangeF1 (eCons (eFld "Net" "size" (eFld "Times" "net" (eVar 0))) eNil))
  (sMask [1, 1, 1, 1, 0, 0] (sIf (eB (eOp ninD (eTup (eCons (eVar 3) (eCons (eVar 4) eNil))) (eFld "Times" "behind" (eVar 0)))) (sIf (eB (eCall allF (eCons (eComp [5] (.nm 5) (eIter (eMeth "Net" "ways" 2 f_Net_ways (eFld "Times" "net" (eVar 0)) (eCons (eVar 4) eNil))) eYes (eOp inD (eTup (eCons (eVar 3) (eCons (eVar 5) eNil))) (eFld "Times" "before" (eVar 0)))) eNil))) (sSetP 0 (.f .v "Times" "behind") (eTup (eCons (eVar 3) (eCons (eVar 4) eNil))) (eImm (eOp addD (eVar 1) (eC (.int 1))))) sNil) sNil)))))))
  (sRetIO (eOp gtD (eCall lenF (eCons (eVar 2) eNil)) (eC (.int 0))))))))
def f_Times_step_u : List D → Option (Option Bool × List Str × List D) := mkIO "Times" 1 6 g_Times_step_u
abbrev s_Times_init : Stmt := inClass (top 13) 0
abbrev N_Times_init : List Str := ["self", "net", "turns", "place"]
def g_Times_init : En → Fl := (sSeq (sFldF 0 "Times" "net" (eImm (eVar 1)))
  (sSeq (sFldF 0 "Times" "before" (eDComp (.dt [] []) [3] (.nm 3) (eRange rangeF1 (eCons (eFld "Net" "size" (eVar 1)) eNil)) eYes (eTup (eCons (eVar 3) (eCons (eVar 3) eNil))) (eImm (eC (.int 0)))))
  (sSeq (sFldF 0 "Times" "behind" (eDComp (.dt [] []) [3] (.nm 3) (eRange rangeF1 (eCons (eFld "Net" "size" (eVar 1)) eNil)) eYes (eTup (eCons (eVar 3) (eCons (eVar 3) eNil))) (eImm (eC (.int 0)))))
  (sSeq (sSetI 2 (eC (.int 0)))
  (sPre [1, 0, 1, 0] (sWhileM 1000000 (eMB (eIO 0 "Times" "_step" 1 f_Times_step_u (eCons (eVar 2) eNil)))
  (sMask [1, 0, 1, 0] (sAug 2 plusI (eC (.int 1))))))))))
def f_Times_init : List D → R D := mkF "Times" 1 4 g_Times_init
abbrev s_chaser_goes : Stmt := top 15
abbrev N_chaser_goes : List Str := ["net", "chaser", "thief"]
def g_chaser_goes : En → Fl := (sSeq (sDrop (eCallF 2 f_check_place (eCons (eVar 0) (eCons (eVar 1) eNil))))
  (sSeq (sDrop (eCallF 2 f_check_place (eCons (eVar 0) (eCons (eVar 2) eNil))))
  (sRet (eCallF 3 f_chaser_goes_u (eCons (eCallF 1 f_Times_init (eCons (eVar 0) eNil)) (eCons (eVar 1) (eCons (eVar 2) eNil)))))))
def f_chaser_goes : List D → R D := runD 3 3 g_chaser_goes
abbrev s_Times_worst : Stmt := inClass (top 13) 3
abbrev N_Times_worst : List Str := ["self", "chaser", "thief", "ways", "one"]
def g_Times_worst : En → Fl := (sSeq (sSetF 3 (eTop (eComp [4] (.nm 4) (eIter (eMeth "Net" "ways" 2 f_Net_ways (eFld "Times" "net" (eVar 0)) (eCons (eVar 2) eNil))) (eB (eOp ninD (eTup (eCons (eVar 1) (eCons (eVar 4) eNil))) (eFld "Times" "before" (eVar 0)))) (eVar 4))))
  (sSeq (sIf (eB (eOp gtD (eCall lenF (eCons (eVar 3) eNil)) (eC (.int 0)))) (sRet (eImm (eOp idxD (eVar 3) (eC (.int 0))))) sNil)
  (sRet (eImm (eOp idxD (eCall minG (eCons (eComp [4] (.nm 4) (eIter (eMeth "Net" "ways" 2 f_Net_ways (eFld "Times" "net" (eVar 0)) (eCons (eVar 2) eNil))) eYes (eTup (eCons (eOp subD (eC (.int 0)) (eOp idxD (eFld "Times" "before" (eVar 0)) (eTup (eCons (eVar 1) (eCons (eVar 4) eNil))))) (eCons (eVar 4) eNil)))) eNil)) (eC (.int 1)))))))
def f_Times_worst : List D → R D := runD 3 5 g_Times_worst
abbrev s_thief_goes_u : Stmt := top 16
abbrev N_thief_goes_u : List Str := ["times", "chaser", "thief"]
def g_thief_goes_u : En → Fl := (sRet (eIf (eB (eOp eqD (eVar 1) (eVar 2))) (eImm (eVar 2)) (eMeth "Times" "worst" 3 f_Times_worst (eVar 0) (eCons (eVar 1) (eCons (eVar 2) eNil)))))
def f_thief_goes_u : List D → R D := runD 3 3 g_thief_goes_u
abbrev s_thief_goes : Stmt := top 17
abbrev N_thief_goes : List Str := ["net", "chaser", "thief"]
def g_thief_goes : En → Fl := (sSeq (sDrop (eCallF 2 f_check_place (eCons (eVar 0) (eCons (eVar 1) eNil))))
  (sSeq (sDrop (eCallF 2 f_check_place (eCons (eVar 0) (eCons (eVar 2) eNil))))
  (sRet (eCallF 3 f_thief_goes_u (eCons (eCallF 1 f_Times_init (eCons (eVar 0) eNil)) (eCons (eVar 1) (eCons (eVar 2) eNil)))))))
def f_thief_goes : List D → R D := runD 3 3 g_thief_goes
abbrev s_law_behind_u : Stmt := top 23
abbrev N_law_behind_u : List Str := ["times", "ways", "there", "t", "away"]
def g_law_behind_u : En → Fl := (sRet (eIf (eB (eOp eqD (eVar 2) (eVar 3))) (eImm (eC (.int 0))) (eImm (eCall maxG (eCons (eComp [4] (.nm 4) (eIter (eOp idxD (eVar 1) (eVar 3))) eYes (eOp idxD (eOp idxD (eVar 0) (eVar 2)) (eVar 4))) eNil)))))
def f_law_behind_u : List D → R D := runD 4 5 g_law_behind_u
abbrev s_law_chaser_u : Stmt := top 24
abbrev N_law_chaser_u : List Str := ["times", "ways", "c", "t", "costs", "there"]
def g_law_chaser_u : En → Fl := (sSeq (sIf (eB (eOp inD (eVar 3) (eOp idxD (eVar 1) (eVar 2)))) (sRetV 3) sNil)
  (sSeq (sIf (eB (eOp eqD (eOp idxD (eOp idxD (eVar 0) (eVar 2)) (eVar 3)) (eC (.int 1000)))) (sRetV 2) sNil)
  (sSeq (sSetF 4 (eComp [5] (.nm 5) (eIter (eOp idxD (eVar 1) (eVar 2))) eYes (eCallF 4 f_law_behind_u (eCons (eVar 0) (eCons (eVar 1) (eCons (eVar 5) (eCons (eVar 3) eNil)))))))
  (sRet (eImm (eOp idxD (eOp idxD (eVar 1) (eVar 2)) (eIndex (eVar 4) (eCall minG (eCons (eVar 4) eNil)))))))))
def f_law_chaser_u : List D → R D := runD 4 6 g_law_chaser_u
abbrev s_law_thief_u : Stmt := top 25
abbrev N_law_thief_u : List Str := ["times", "ways", "c", "t", "costs", "away"]
def g_law_thief_u : En → Fl := (sSeq (sIf (eB (eOp eqD (eVar 2) (eVar 3))) (sRetV 3) sNil)
  (sSeq (sSetF 4 (eTop (eComp [5] (.nm 5) (eIter (eOp idxD (eVar 1) (eVar 3))) eYes (eOp idxD (eOp idxD (eVar 0) (eVar 2)) (eVar 5)))))
  (sRet (eImm (eOp idxD (eOp idxD (eVar 1) (eVar 3)) (eIndex (eVar 4) (eCall maxG (eCons (eVar 4) eNil))))))))
def f_law_thief_u : List D → R D := runD 4 6 g_law_thief_u
abbrev s_law_refused_u : Stmt := top 26
abbrev N_law_refused_u : List Str := ["call", "net", "chaser", "thief"]
def g_law_refused_u : En → Fl := (sSeq (sTry [("BadPlace", true)] (sIf (eB (eOp eqD (eVar 0) (eC (.int 0)))) (sDrop (eCallF 3 f_chaser_goes (eCons (eVar 1) (eCons (eVar 2) (eCons (eVar 3) eNil))))) (sDrop (eCallF 3 f_thief_goes (eCons (eVar 1) (eCons (eVar 2) (eCons (eVar 3) eNil)))))) (sRet (eImm (eC (.bl true)))))
  (sRet (eImm (eC (.bl false)))))
def f_law_refused_u : List D → R D := runD 4 4 g_law_refused_u
abbrev s_law : Stmt := top 27
abbrev N_law : List Str := ["script", "draws", "turn", "times", "c", "wrong", "size", "pairs", "net", "ways", "t", "call", "one", "other"]
def g_law : En → Fl := (sSeq (sSetF 1 (eCallF 2 f_law_draws_u (eCons (eVar 0) (eCons (eC (.int 50)) eNil))))
  (sSeq (sPre [0, 1, 0, 0, 0, 0, 0, 0, 0, 0, 0, 0, 0, 0] (sForF (.nm 2) (eRange rangeF1 (eCons (eC (.int 3)) eNil))
  (sMask [0, 1, 0, 0, 0, 0, 0, 0, 0, 0, 0, 0, 0, 0] (sSeq (sPutF (.tp [(.nm 6), (.nm 7)]) (eCallF 3 f_law_net_u (eCons (eVar 1) (eCons (eOp mulD (eC (.int 13)) (eVar 2)) (eCons (eOp idxD (eLst (eCons (eC (.int 4)) (eCons (eC (.int 8)) (eCons (eC (.int 6)) eNil)))) (eVar 2)) eNil)))))
  (sSeq (sPars [8, 9] (eCons (eFrz (eCallF 2 f_Net_init (eCons (eVar 6) (eCons (eVar 7) eNil)))) (eCons (eCallF 2 f_law_ways_u (eCons (eVar 6) (eCons (eVar 7) eNil))) eNil)))
  (sSeq (sSetF 3 (eCallF 2 f_law_times_u (eCons (eVar 6) (eCons (eVar 9) eNil))))
  (sSeq (sPre [0, 1, 0, 1, 0, 0, 1, 0, 1, 1, 0, 0, 0, 0] (sForF (.nm 4) (eRange rangeF1 (eCons (eVar 6) eNil))
  (sMask [0, 1, 0, 1, 0, 0, 1, 0, 1, 1, 0, 0, 0, 0] (sPre [0, 1, 0, 1, 1, 0, 1, 0, 1, 1, 0, 0, 0, 0] (sForF (.nm 10) (eRange rangeF1 (eCons (eVar 6) eNil))
  (sMask [0, 1, 0, 1, 1, 0, 1, 0, 1, 1, 0, 0, 0, 0] (sSeq (sPars [12, 13] (eCons (eCallF 3 f_chaser_goes (eCons (eVar 8) (eCons (eVar 4) (eCons (eVar 10) eNil)))) (eCons (eCallF 3 f_thief_goes (eCons (eVar 8) (eCons (eVar 4) (eCons (eVar 10) eNil)))) eNil)))
  (sIf (eOrT (eB (eOp neD (eVar 12) (eCallF 4 f_law_chaser_u (eCons (eVar 3) (eCons (eVar 9) (eCons (eVar 4) (eCons (eVar 10) eNil))))))) (eOrT (eB (eOp neD (eVar 13) (eCallF 4 f_law_thief_u (eCons (eVar 3) (eCons (eVar 9) (eCons (eVar 4) (eCons (eVar 10) eNil))))))) (eOrT (eB (eCall isiF (eCons (eVar 12) (eCons (eC (.ty "bool")) eNil)))) (eB (eCall isiF (eCons (eVar 13) (eCons (eC (.ty "bool")) eNil))))))) (sRet (eImm (eC (.bl false)))) sNil))))))))
  (sPre [0, 1, 0, 0, 0, 0, 1, 0, 1, 0, 0, 0, 0, 0] (sForF (.nm 5) (eIter (eTop (eLst (eCons (eNeg (eC (.int 1))) (eCons (eVar 6) (eCons (eC (.bl true)) (eCons (eC .non) (eCons (eC (.str "0")) (eCons (eTup (eCons (eC (.int 0)) eNil)) eNil)))))))))
  (sMask [0, 1, 0, 0, 0, 0, 1, 0, 1, 0, 0, 0, 0, 0] (sPre [0, 1, 0, 0, 0, 1, 1, 0, 1, 0, 0, 0, 0, 0] (sForF (.nm 11) (eRange rangeF1 (eCons (eC (.int 2)) eNil))
  (sMask [0, 1, 0, 0, 0, 1, 1, 0, 1, 0, 0, 0, 0, 0] (sIf (eOrT (eNotT (eB (eCallF 4 f_law_refused_u (eCons (eVar 11) (eCons (eVar 8) (eCons (eVar 5) (eCons (eC (.int 0)) eNil))))))) (eNotT (eB (eCallF 4 f_law_refused_u (eCons (eVar 11) (eCons (eVar 8) (eCons (eC (.int 0)) (eCons (eVar 5) eNil)))))))) (sRet (eImm (eC (.bl false)))) sNil))))))))))))))
  (sRet (eImm (eC (.bl true))))))
def f_law : List D → R D := runD 1 14 g_law
end
end LW
set_option Elab.async false
set_option linter.all false
set_option maxRecDepth 100000
set_option maxHeartbeats 4000000
namespace LW
open PySem PySem.Spec PyProof.Rows L2 DL
structure Facts (K : PySem.W.Frag) (w : World) (mg : Str → Option Value) : Prop where
  b_abs : mg "abs" = none
  b_all : mg "all" = none
  b_any : mg "any" = none
  b_bool : mg "bool" = none
  b_int : mg "int" = none
  b_isinstance : mg "isinstance" = none
  b_len : mg "len" = none
  b_list : mg "list" = none
  b_max : mg "max" = none
  b_min : mg "min" = none
  b_range : mg "range" = none
  b_set : mg "set" = none
  b_sorted : mg "sorted" = none
  b_tuple : mg "tuple" = none
  c_MOST_PLACES : ∃ t, mg "MOST_PLACES" = some (.int 24 t)
  e_BadNet : ExcD K mg "BadNet"
  e_BadPlace : ExcD K mg "BadPlace"
  k_Net : ClsD K mg "Net"
  k_Times : ClsD K mg "Times"
  n_Net__near : FldD K mg "Net" "_near"
  n_Net_pairs : FldD K mg "Net" "pairs"
  n_Net_size : FldD K mg "Net" "size"
  n_Times_before : FldD K mg "Times" "before"
  n_Times_behind : FldD K mg "Times" "behind"
  n_Times_net : FldD K mg "Times" "net"
  t_BadPlace_BadPlace : CatD K mg "BadPlace" "BadPlace" true
section
variable {P : Program} {w : World} {K : PySem.W.Frag} {mg : Str → Option Value} {base : Heap}
theorem sc_law_draws_u : FnScope N_law_draws_u ["script", "many"] (defScope s_law_draws_u) := ⟨rfl, rfl, rfl, by decide +kernel, rfl, by decide +kernel, by decide +kernel⟩
theorem ok_law_draws_u (B : Facts K w mg) (r : RawD K mg "_law_draws" s_law_draws_u ["script", "many"])  : DefD P w K mg base 1 2 "_law_draws" f_law_draws_u :=
  okDD r sc_law_draws_u rfl fun f cdv A outer s H E hr tk => by
    unfold g_law_draws_u
    exact (dss_cons (ds_setF (DQ.df (dq_lst da_nil)) sc_law_draws_u.nd)
  (dss_cons (ds_setI de_int sc_law_draws_u.nd)
  (dss_cons (ds_pre [1, 1, 1, 1, 0, 0, 0] (ds_forF (dif_any (DQ.df (dq_slice (de_var (pv 0)) dp_none (dp_some de_int)))) (dg_name sc_law_draws_u.nd)
  (dss_mask [1, 1, 1, 1, 0, 0, 0] (dss_cons (ds_setI (DQ.de (dq_callB cr_abs B.b_abs bt_abs (da_cons (de_var (pv 4)) da_nil))) sc_law_draws_u.nd)
  (dss_cons (ds_setI (de_bin or_mod (DQ.de (dq_callTy cr_int B.b_int bt_int (da_cons (de_bin or_add (de_bin or_add (de_bin or_mul (de_var (pv 3)) de_int) (de_var (pv 6))) de_int) da_nil))) de_int) sc_law_draws_u.nd)
  (dss_one (ds_if (dt_cmp (or_geX (hu0 hr)) (de_var (pv 6)) (de_bin or_pow de_int de_int)) (dss_one (ds_pre [1, 1, 1, 1, 0, 0, 1] (ds_forF (dif_rng1 B.b_range (da_cons de_int da_nil)) (dg_name sc_law_draws_u.nd)
  (dss_mask [1, 1, 1, 1, 0, 0, 1] (dss_one (ds_if (dt_cmp or_gt (de_var (pv 6)) de_int) (dss_cons (ds_appI (de_bin or_mod (DQ.de (dq_callTy cr_int B.b_int bt_int (da_cons (de_var (pv 6)) da_nil))) de_int) (pv 2))
  (dss_one (ds_setI (de_bin or_fdiv (de_var (pv 6)) de_int) sc_law_draws_u.nd))) dss_nil))) (passes_of rfl)))) (dss_one (ds_appI (de_bin or_mod (de_bin or_fdiv (DQ.de (dq_callTy cr_int B.b_int bt_int (da_cons (de_bin or_add (de_bin or_mul (de_var (pv 3)) de_int) de_int) da_nil))) de_int) de_int) (pv 2)))))))) (passes_of rfl)))
  (dss_cons (ds_pre [0, 1, 1, 1, 0, 0, 0] (ds_forF (dif_rng1 B.b_range (da_cons (de_var (pv 1)) da_nil)) (dg_name sc_law_draws_u.nd)
  (dss_mask [0, 1, 1, 1, 0, 0, 0] (dss_one (ds_if (dt_cmp (or_lt (hu0 hr)) (DQ.de (dq_callB cr_len B.b_len bt_len (da_cons (de_var (pv 2)) da_nil))) (de_var (pv 1))) (dss_cons (ds_setI (de_bin or_mod (DQ.de (dq_callTy cr_int B.b_int bt_int (da_cons (de_bin or_add (de_bin or_add (de_bin or_mul (de_var (pv 3)) de_int) (de_var (pv 5))) de_int) da_nil))) de_int) sc_law_draws_u.nd)
  (dss_one (ds_appI (de_bin or_mod (de_bin or_fdiv (DQ.de (dq_callTy cr_int B.b_int bt_int (da_cons (de_var (pv 3)) da_nil))) de_int) de_int) (pv 2)))) dss_nil))) (passes_of rfl)))
  (dss_one (ds_ret (DQ.df (dq_slice (de_var (pv 2)) dp_none (dp_some (de_var (pv 1)))))))))))
theorem sc_law_net_u : FnScope N_law_net_u ["draws", "at", "most"] (defScope s_law_net_u) := ⟨rfl, rfl, rfl, by decide +kernel, rfl, by decide +kernel, by decide +kernel⟩
theorem ok_law_net_u (B : Facts K w mg) (r : RawD K mg "_law_net" s_law_net_u ["draws", "at", "most"])  : DefD P w K mg base 1 3 "_law_net" f_law_net_u :=
  okDD r sc_law_net_u rfl fun f cdv A outer s H E hr tk => by
    unfold g_law_net_u
    exact (dss_cons (ds_setI (de_bin or_add de_int (de_bin or_mod (DQ.de (dq_callTy cr_int B.b_int bt_int (da_cons (de_ix (hu1 hr) (de_var (pv 0)) (de_var (pv 1))) da_nil))) (de_var (pv 2)))) sc_law_net_u.nd)
  (dss_cons (ds_pars3 (daf_cons (df_imm (de_bin or_add de_int (de_bin or_mod (DQ.de (dq_callTy cr_int B.b_int bt_int (da_cons (de_ix (hu1 hr) (de_var (pv 0)) (de_bin or_add (de_var (pv 1)) de_int)) da_nil))) de_int))) (daf_cons (df_imm (de_bin or_mod (DQ.de (dq_callTy cr_int B.b_int bt_int (da_cons (de_ix (hu1 hr) (de_var (pv 0)) (de_bin or_add (de_var (pv 1)) de_int)) da_nil))) de_int)) (daf_cons (DQ.df (dq_lst da_nil)) daf_nil))) sc_law_net_u.nd)
  (dss_cons (ds_pre [1, 1, 0, 1, 0, 1, 1, 1, 0, 0] (ds_forF (dif_rng1 B.b_range (da_cons (de_var (pv 3)) da_nil)) (dg_name sc_law_net_u.nd)
  (dss_mask [1, 1, 0, 1, 0, 1, 1, 1, 0, 0] (dss_cons (ds_setI (DQ.de (dq_callTy cr_int B.b_int bt_int (da_cons (de_ix (hu1 hr) (de_var (pv 0)) (de_bin or_add (de_bin or_add (de_var (pv 1)) de_int) (de_var (pv 4)))) da_nil))) sc_law_net_u.nd)
  (dss_cons (ds_maskN [1, 1, 0, 1, 1, 1, 1, 1, 1, 0] (ds_if (PW.pt (dw_and (dt_cmp (or_lt (hu0 hr)) (de_var (pv 6)) de_int) (dw_and1 (dt_cmp or_gt (de_var (pv 4)) de_int)))) (dss_one (ds_appI (DQ.de (dq_tup (da_cons (de_bin or_mod (de_var (pv 8)) (de_var (pv 4))) (da_cons (de_var (pv 4)) da_nil)))) (pv 7))) dss_nil))
  (dss_cons (ds_maskN [1, 1, 0, 1, 1, 1, 1, 1, 1, 0] (ds_if (PW.pt (dw_and (dt_cmp (or_eq (hu64 hr)) (de_var (pv 6)) de_int) (dw_and1 (dt_cmp or_gt (de_var (pv 4)) de_int)))) (dss_one (ds_appI (DQ.de (dq_tup (da_cons (de_bin or_sub (de_var (pv 4)) de_int) (da_cons (de_var (pv 4)) da_nil)))) (pv 7))) dss_nil))
  (dss_one (ds_pre [1, 1, 0, 1, 1, 1, 1, 1, 1, 0] (ds_forF (dif_rng1 B.b_range (da_cons (de_var (pv 4)) da_nil)) (dg_name sc_law_net_u.nd)
  (dss_mask [1, 1, 0, 1, 1, 1, 1, 1, 1, 0] (dss_one (ds_if (PW.pt (dw_and (dt_cmp (or_eq (hu64 hr)) (de_bin or_mod (de_bin or_fdiv (de_var (pv 8)) (de_bin or_add (de_var (pv 9)) de_int)) (de_bin or_add (de_var (pv 5)) (de_if (dt_cmp (or_eq (hu64 hr)) (de_var (pv 6)) de_int) de_int de_int))) de_int) (dw_and1 (dt_cmp (or_ne (hu64 hr)) (de_var (pv 6)) de_int)))) (dss_one (ds_appI (DQ.de (dq_tup (da_cons (de_var (pv 9)) (da_cons (de_var (pv 4)) da_nil)))) (pv 7))) dss_nil))) (passes_of rfl)))))))) (passes_of rfl)))
  (dss_cons (ds_maskN [0, 0, 0, 1, 0, 0, 0, 1, 0, 0] (ds_if (PW.pt (dw_and (dt_cmp (or_eq (hu64 hr)) (de_var (pv 6)) de_int) (dw_and1 (dt_cmp or_gt (de_var (pv 3)) de_int)))) (dss_one (ds_appI (DQ.de (dq_tup (da_cons de_int (da_cons (de_bin or_sub (de_var (pv 3)) de_int) da_nil)))) (pv 7))) dss_nil))
  (dss_one (ds_ret (DQ.df (dq_tup (da_cons (de_var (pv 3)) (da_cons (DQ.de (dq_callTy cr_tuple B.b_tuple bt_tuple (da_cons (DF.de (df_sortSet (hu64 hr) B.b_sorted B.b_set (de_var (pv 7)))) da_nil))) da_nil))))))))))
theorem sc_law_times_u : FnScope N_law_times_u ["size", "ways"] (defScope s_law_times_u) := ⟨rfl, rfl, rfl, by decide +kernel, rfl, by decide +kernel, by decide +kernel⟩
theorem ok_law_times_u (B : Facts K w mg) (r : RawD K mg "_law_times" s_law_times_u ["size", "ways"])  : DefD P w K mg base 1 2 "_law_times" f_law_times_u :=
  okDD r sc_law_times_u rfl fun f cdv A outer s H E hr tk => by
    unfold g_law_times_u
    exact (dss_cons (ds_setF (df_comp (DIF.di (dif_rng1 B.b_range (da_cons (de_var (pv 0)) da_nil))) sc_law_times_u.nd (blkOk_by (N := N_law_times_u) (sc := defScope s_law_times_u) (own := [("one", 5)]) (by decide +kernel)) (fun _ _ _ _ _ => (dg_name sc_law_times_u.nd)) (fun _ _ _ _ _ => dts_nil) (fun _ _ _ _ _ => (DQ.df (dq_comp (DIF.di (dif_rng1 B.b_range (da_cons (de_var (pv 0)) da_nil))) sc_law_times_u.nd (blkOk_in (blkOk_by (N := N_law_times_u) (own := [("other", 6)]) (by decide +kernel))) (fun _ _ _ _ _ => (dg_name sc_law_times_u.nd)) (fun _ _ _ _ _ => dts_nil) (fun _ _ _ _ _ => (de_if (dt_cmp (or_eq (hu64 hr)) (de_var (pv 5)) (de_var (pv 6))) de_int de_int)))))) sc_law_times_u.nd)
  (dss_cons (ds_pre [1, 1, 1, 0, 0, 0, 0, 0, 0, 0, 0] (ds_forF (dif_rng1 B.b_range (da_cons (de_bin or_add (de_bin or_mul (de_var (pv 0)) (de_var (pv 0))) de_int) da_nil)) (dg_name sc_law_times_u.nd)
  (dss_mask [1, 1, 1, 0, 0, 0, 0, 0, 0, 0, 0] (dss_cons (ds_setLcF (di_any (de_var (pv 2))) sc_law_times_u.nd (blkOk_by (N := N_law_times_u) (sc := defScope s_law_times_u) (own := [("row", 7)]) (by decide +kernel)) (fun _ _ _ _ _ => (dg_name sc_law_times_u.nd)) (fun _ _ _ _ _ => dts_nil) (fun _ _ _ _ _ => (DQ.df (dq_callTy cr_list B.b_list bt_list (da_cons (de_var (pv 7)) da_nil)))))
  (dss_cons (ds_pre [1, 1, 1, 0, 1, 0, 0, 0, 0, 0, 0] (ds_forF (dif_rng1 B.b_range (da_cons (de_var (pv 0)) da_nil)) (dg_name sc_law_times_u.nd)
  (dss_mask [1, 1, 1, 0, 1, 0, 0, 0, 0, 0, 0] (dss_one (ds_pre [1, 1, 1, 0, 1, 1, 0, 0, 0, 0, 0] (ds_forF (dif_rng1 B.b_range (da_cons (de_var (pv 0)) da_nil)) (dg_name sc_law_times_u.nd)
  (dss_mask [1, 1, 1, 0, 1, 1, 0, 0, 0, 0, 0] (dss_one (ds_if (dt_cmp (or_ne (hu64 hr)) (de_var (pv 5)) (de_var (pv 6))) (dss_cons (ds_setLcT (di_any (de_ix (hu1 hr) (de_var (pv 1)) (de_var (pv 5)))) sc_law_times_u.nd (blkOk_by (N := N_law_times_u) (sc := defScope s_law_times_u) (own := [("there", 9)]) (by decide +kernel)) (fun _ _ _ _ _ => (dg_name sc_law_times_u.nd)) (fun _ _ _ _ _ => dts_nil) (fun _ _ _ _ _ => (de_if (dt_cmp (or_eq (hu64 hr)) (de_var (pv 9)) (de_var (pv 6))) de_int (DQ.de (dq_callB (cr_maxG rfl (hu64 hr)) B.b_max bt_max (da_cons (DQ.de (dq_comp (di_any (de_ix (hu1 hr) (de_var (pv 1)) (de_var (pv 6)))) sc_law_times_u.nd (blkOk_in (blkOk_by (N := N_law_times_u) (own := [("away", 10)]) (by decide +kernel))) (fun _ _ _ _ _ => (dg_name sc_law_times_u.nd)) (fun _ _ _ _ _ => dts_nil) (fun _ _ _ _ _ => (de_ix (hu1 hr) (de_ix (hu1 hr) (de_var (pv 2)) (de_var (pv 9))) (de_var (pv 10)))))) da_nil))))))
  (dss_one (ds_setP (hu1 hr) (df_imm (DQ.de (dq_callB (cr_minG rfl (hu64 hr)) B.b_min bt_min (da_cons de_int (da_cons (de_bin or_add de_int (DQ.de (dq_callB (cr_minG rfl (hu64 hr)) B.b_min bt_min (da_cons (de_var (pv 8)) da_nil)))) da_nil))))) (dpx_x (hu1 hr) (dpx_v (pv 4)) (de_var (pv 5))) (de_var (pv 6))))) dss_nil))) (passes_of rfl))))) (passes_of rfl)))
  (dss_cons (ds_if (dt_cmp (or_eq (hu64 hr)) (de_var (pv 4)) (de_var (pv 2))) (dss_one (ds_retV (pv 2))) dss_nil)
  (dss_one (ds_move (pv 4) sc_law_times_u.nd)))))) (passes_of rfl)))
  (dss_one (ds_retV (pv 2)))))
theorem sc_is_whole : FnScope N_is_whole ["value", "least", "most"] (defScope s_is_whole) := ⟨rfl, rfl, rfl, by decide +kernel, rfl, by decide +kernel, by decide +kernel⟩
theorem ok_is_whole (B : Facts K w mg) (r : RawD K mg "is_whole" s_is_whole ["value", "least", "most"])  : DefD P w K mg base 1 3 "is_whole" f_is_whole :=
  okDD r sc_is_whole rfl fun f cdv A outer s H E hr tk => by
    unfold g_is_whole
    exact (dss_one (ds_ret (df_imm (de_and (DQ.de (dq_callB cr_isi B.b_isinstance bt_isinstance (da_cons (de_var (pv 0)) (da_cons (de_ty B.b_int bt_int) da_nil)))) (de_and (de_not (DQ.de (dq_callB cr_isi B.b_isinstance bt_isinstance (da_cons (de_var (pv 0)) (da_cons (de_ty B.b_bool bt_bool) da_nil))))) (de_one (de_chain or_le or_le (de_var (pv 1)) (de_var (pv 0)) (de_var (pv 2)))))))))
theorem sc_are_pairs_u : FnScope N_are_pairs_u ["size", "value"] (defScope s_are_pairs_u) := ⟨rfl, rfl, rfl, by decide +kernel, rfl, by decide +kernel, by decide +kernel⟩
theorem ok_are_pairs_u (B : Facts K w mg) (r : RawD K mg "_are_pairs" s_are_pairs_u ["size", "value"]) (D_is_whole : DefD P w K mg base 1 3 "is_whole" f_is_whole) : DefD P w K mg base 2 2 "_are_pairs" f_are_pairs_u :=
  okDD r sc_are_pairs_u rfl fun f cdv A outer s H E hr tk => by
    unfold g_are_pairs_u
    exact (dss_cons (ds_if (PW.pt (dw_or (dt_not (dt_val (DQ.de (dq_callB cr_isi B.b_isinstance bt_isinstance (da_cons (de_var (pv 1)) (da_cons (de_ty B.b_tuple bt_tuple) da_nil)))))) (dw_or1 (dt_not (dt_val (DQ.de (dq_callB (cr_allD rfl) B.b_all bt_all (da_cons (DQ.de (dq_comp (di_any (de_var (pv 1))) sc_are_pairs_u.nd (blkOk_by (N := N_are_pairs_u) (sc := defScope s_are_pairs_u) (own := [("one", 5)]) (by decide +kernel)) (fun _ _ _ _ _ => (dg_name sc_are_pairs_u.nd)) (fun _ _ _ _ _ => dts_nil) (fun _ _ _ _ _ => (de_and (DQ.de (dq_callB cr_isi B.b_isinstance bt_isinstance (da_cons (de_var (pv 5)) (da_cons (de_ty B.b_tuple bt_tuple) da_nil)))) (de_one (de_cmp (or_eq (hu64 hr)) (DQ.de (dq_callB cr_len B.b_len bt_len (da_cons (de_var (pv 5)) da_nil))) de_int)))))) da_nil)))))))) (dss_one (ds_ret (df_imm de_bl))) dss_nil)
  (dss_cons (ds_pre [1, 1, 0, 0, 0, 0] (ds_forS (di_any (de_var (pv 1))) (dg_tup (dgs_cons (dg_name sc_are_pairs_u.nd) (dgs_cons (dg_name sc_are_pairs_u.nd) dgs_nil)))
  (dss_mask [1, 1, 0, 0, 0, 0] (dss_one (ds_if (PW.pt (dw_or (dt_not (dt_val (DF.de (df_call D_is_whole hr (by decide) tk (da_cons (de_var (pv 2)) (da_cons de_int (da_cons (de_bin or_sub (de_var (pv 0)) de_int) da_nil))))))) (dw_or (dt_not (dt_val (DF.de (df_call D_is_whole hr (by decide) tk (da_cons (de_var (pv 3)) (da_cons de_int (da_cons (de_bin or_sub (de_var (pv 0)) de_int) da_nil))))))) (dw_or1 (dt_cmp (or_geX (hu0 hr)) (de_var (pv 2)) (de_var (pv 3))))))) (dss_one (ds_ret (df_imm de_bl))) dss_nil))) (passes_of rfl)))
  (dss_one (ds_ret (df_imm (DQ.de (dq_callB (cr_allD rfl) B.b_all bt_all (da_cons (DQ.de (dq_comp (DIF.di (dif_rng1 B.b_range (da_cons (de_bin or_sub (DQ.de (dq_callB cr_len B.b_len bt_len (da_cons (de_var (pv 1)) da_nil))) de_int) da_nil))) sc_are_pairs_u.nd (blkOk_by (N := N_are_pairs_u) (sc := defScope s_are_pairs_u) (own := [("at", 4)]) (by decide +kernel)) (fun _ _ _ _ _ => (dg_name sc_are_pairs_u.nd)) (fun _ _ _ _ _ => dts_nil) (fun _ _ _ _ _ => (de_cmp (or_lt (hu0 hr)) (de_ix (hu1 hr) (de_var (pv 1)) (de_var (pv 4))) (de_ix (hu1 hr) (de_var (pv 1)) (de_bin or_add (de_var (pv 4)) de_int)))))) da_nil))))))))
theorem sc_Net_init : FnScope N_Net_init ["self", "size", "pairs"] (defScope s_Net_init) := ⟨rfl, rfl, rfl, by decide +kernel, rfl, by decide +kernel, by decide +kernel⟩
theorem ok_Net_init (B : Facts K w mg) (r : RawI K mg "Net" "Net.__init__" s_Net_init ["self", "size", "pairs"]) (D_is_whole : DefD P w K mg base 1 3 "is_whole" f_is_whole) (D_are_pairs_u : DefD P w K mg base 2 2 "_are_pairs" f_are_pairs_u) : MakeD P w K mg base 3 2 "Net" f_Net_init :=
  okMI r sc_Net_init rfl fun f cdv A outer s H E hr tk => by
    unfold g_Net_init
    exact (dss_cons (ds_if (PW.pt (dw_or (dt_not (dt_val (DF.de (df_call D_is_whole hr (by decide) tk (da_cons (de_var (pv 1)) (da_cons de_int (da_cons (de_globI B.c_MOST_PLACES) da_nil))))))) (dw_or1 (dt_not (dt_val (DF.de (df_call D_are_pairs_u hr (by decide) tk (da_cons (de_var (pv 1)) (da_cons (de_var (pv 2)) da_nil))))))))) (dss_one (ds_raiseD B.e_BadNet tk)) dss_nil)
  (dss_cons (ds_fldF (df_imm (de_var (pv 1))) (pv 0) B.k_Net B.n_Net_size)
  (dss_cons (ds_fldF (df_imm (de_var (pv 2))) (pv 0) B.k_Net B.n_Net_pairs)
  (dss_cons (ds_fldF (df_comp (DIF.di (dif_rng1 B.b_range (da_cons (de_var (pv 1)) da_nil))) sc_Net_init.nd (blkOk_by (N := N_Net_init) (sc := defScope s_Net_init) (own := [("_", 5)]) (by decide +kernel)) (fun _ _ _ _ _ => (dg_name sc_Net_init.nd)) (fun _ _ _ _ _ => dts_nil) (fun _ _ _ _ _ => (DQ.df (dq_lst da_nil)))) (pv 0) B.k_Net B.n_Net__near)
  (dss_one (ds_pre [1, 0, 1, 0, 0, 0] (ds_forS (di_any (de_var (pv 2))) (dg_tup (dgs_cons (dg_name sc_Net_init.nd) (dgs_cons (dg_name sc_Net_init.nd) dgs_nil)))
  (dss_mask [1, 0, 1, 0, 0, 0] (dss_cons (ds_appP (dpx_x (hu1 hr) (dpx_f (dpx_v (pv 0)) B.k_Net B.n_Net__near) (de_var (pv 3))) (df_imm (de_var (pv 4))))
  (dss_one (ds_appP (dpx_x (hu1 hr) (dpx_f (dpx_v (pv 0)) B.k_Net B.n_Net__near) (de_var (pv 4))) (df_imm (de_var (pv 3))))))) (passes_of rfl))))))))
theorem sc_law_ways_u : FnScope N_law_ways_u ["size", "pairs"] (defScope s_law_ways_u) := ⟨rfl, rfl, rfl, by decide +kernel, rfl, by decide +kernel, by decide +kernel⟩
theorem ok_law_ways_u (B : Facts K w mg) (r : RawD K mg "_law_ways" s_law_ways_u ["size", "pairs"])  : DefD P w K mg base 1 2 "_law_ways" f_law_ways_u :=
  okDD r sc_law_ways_u rfl fun f cdv A outer s H E hr tk => by
    unfold g_law_ways_u
    exact (dss_cons (ds_setLcF (DIF.di (dif_rng1 B.b_range (da_cons (de_var (pv 0)) da_nil))) sc_law_ways_u.nd (blkOk_by (N := N_law_ways_u) (sc := defScope s_law_ways_u) (own := [("k", 5)]) (by decide +kernel)) (fun _ _ _ _ _ => (dg_name sc_law_ways_u.nd)) (fun _ _ _ _ _ => dts_nil) (fun _ _ _ _ _ => (DQ.df (dq_lst (da_cons (de_var (pv 5)) da_nil)))))
  (dss_cons (ds_pre [0, 1, 1, 0, 0, 0, 0] (ds_forS (di_any (de_var (pv 1))) (dg_tup (dgs_cons (dg_name sc_law_ways_u.nd) (dgs_cons (dg_name sc_law_ways_u.nd) dgs_nil)))
  (dss_mask [0, 1, 1, 0, 0, 0, 0] (dss_cons (ds_appP (dpx_x (hu1 hr) (dpx_v (pv 2)) (de_var (pv 3))) (df_imm (de_var (pv 4))))
  (dss_one (ds_appP (dpx_x (hu1 hr) (dpx_v (pv 2)) (de_var (pv 4))) (df_imm (de_var (pv 3))))))) (passes_of rfl)))
  (dss_one (ds_ret (df_comp (di_any (de_var (pv 2))) sc_law_ways_u.nd (blkOk_by (N := N_law_ways_u) (sc := defScope s_law_ways_u) (own := [("row", 6)]) (by decide +kernel)) (fun _ _ _ _ _ => (dg_name sc_law_ways_u.nd)) (fun _ _ _ _ _ => dts_nil) (fun _ _ _ _ _ => (DQ.df (dq_callB (cr_sortedD (hu64 hr)) B.b_sorted bt_sorted (da_cons (de_var (pv 6)) da_nil)))))))))
theorem sc_check_place : FnScope N_check_place ["net", "value"] (defScope s_check_place) := ⟨rfl, rfl, rfl, by decide +kernel, rfl, by decide +kernel, by decide +kernel⟩
theorem ok_check_place (B : Facts K w mg) (r : RawD K mg "check_place" s_check_place ["net", "value"]) (D_is_whole : DefD P w K mg base 1 3 "is_whole" f_is_whole) : DefD P w K mg base 2 2 "check_place" f_check_place :=
  okDD r sc_check_place rfl fun f cdv A outer s H E hr tk => by
    unfold g_check_place
    exact (dss_one (ds_if (dt_not (dt_val (DF.de (df_call D_is_whole hr (by decide) tk (da_cons (de_var (pv 1)) (da_cons de_int (da_cons (de_bin or_sub (de_fld (de_var (pv 0)) B.k_Net B.n_Net_size) de_int) da_nil))))))) (dss_one (ds_raiseD B.e_BadPlace tk)) dss_nil))
theorem sc_Net_ways : FnScope N_Net_ways ["self", "place"] (defScope s_Net_ways) := ⟨rfl, rfl, rfl, by decide +kernel, rfl, by decide +kernel, by decide +kernel⟩
theorem ok_Net_ways (B : Facts K w mg) (r : RawM K mg "Net" "ways" "Net.ways" s_Net_ways ["self", "place"])  : MethD P w K mg base 1 2 "Net" "ways" f_Net_ways :=
  okMM r sc_Net_ways rfl fun f cdv A outer s H E hr tk => by
    unfold g_Net_ways
    exact (dss_one (ds_ret (DQ.df (dq_callTy cr_tuple B.b_tuple bt_tuple (da_cons (DQ.de (dq_callB (cr_sortedD (hu64 hr)) B.b_sorted bt_sorted (da_cons (de_bin or_add (de_ix (hu1 hr) (de_fld (de_var (pv 0)) B.k_Net B.n_Net__near) (de_var (pv 1))) (DQ.de (dq_lst (da_cons (de_var (pv 1)) da_nil)))) da_nil))) da_nil)))))
theorem sc_Times_best : FnScope N_Times_best ["self", "chaser", "thief"] (defScope s_Times_best) := ⟨rfl, rfl, rfl, by decide +kernel, rfl, by decide +kernel, by decide +kernel⟩
theorem ok_Times_best (B : Facts K w mg) (r : RawM K mg "Times" "best" "Times.best" s_Times_best ["self", "chaser", "thief"]) (D_Net_ways : MethD P w K mg base 1 2 "Net" "ways" f_Net_ways) : MethD P w K mg base 2 3 "Times" "best" f_Times_best :=
  okMM r sc_Times_best rfl fun f cdv A outer s H E hr tk => by
    unfold g_Times_best
    exact (dss_cons (ds_setLcT (di_any (DF.de (df_meth D_Net_ways hr (by decide) tk (de_fld (de_var (pv 0)) B.k_Times B.n_Times_net) (da_cons (de_var (pv 1)) da_nil)))) sc_Times_best.nd (blkOk_by (N := N_Times_best) (sc := defScope s_Times_best) (own := [("one", 4)]) (by decide +kernel)) (fun _ _ _ _ _ => (dg_name sc_Times_best.nd)) (fun _ _ _ _ _ => (dts_one (dt_cmp (or_in (hu65 hr)) (DQ.de (dq_tup (da_cons (de_var (pv 4)) (da_cons (de_var (pv 2)) da_nil)))) (de_fld (de_var (pv 0)) B.k_Times B.n_Times_behind)))) (fun _ _ _ _ _ => (de_var (pv 4))))
  (dss_one (ds_ret (df_imm (de_ix (hu1 hr) (DQ.de (dq_callB (cr_minG rfl (hu64 hr)) B.b_min bt_min (da_cons (DQ.de (dq_comp (di_any (de_var (pv 3))) sc_Times_best.nd (blkOk_by (N := N_Times_best) (sc := defScope s_Times_best) (own := [("one", 4)]) (by decide +kernel)) (fun _ _ _ _ _ => (dg_name sc_Times_best.nd)) (fun _ _ _ _ _ => dts_nil) (fun _ _ _ _ _ => (DQ.de (dq_tup (da_cons (de_ix (hu1 hr) (de_fld (de_var (pv 0)) B.k_Times B.n_Times_behind) (DQ.de (dq_tup (da_cons (de_var (pv 4)) (da_cons (de_var (pv 2)) da_nil))))) (da_cons (de_var (pv 4)) da_nil))))))) da_nil))) de_int)))))
theorem sc_chaser_goes_u : FnScope N_chaser_goes_u ["times", "chaser", "thief"] (defScope s_chaser_goes_u) := ⟨rfl, rfl, rfl, by decide +kernel, rfl, by decide +kernel, by decide +kernel⟩
theorem ok_chaser_goes_u (B : Facts K w mg) (r : RawD K mg "_chaser_goes" s_chaser_goes_u ["times", "chaser", "thief"]) (D_Net_ways : MethD P w K mg base 1 2 "Net" "ways" f_Net_ways) (D_Times_best : MethD P w K mg base 2 3 "Times" "best" f_Times_best) : DefD P w K mg base 3 3 "_chaser_goes" f_chaser_goes_u :=
  okDD r sc_chaser_goes_u rfl fun f cdv A outer s H E hr tk => by
    unfold g_chaser_goes_u
    exact (dss_cons (ds_if (dt_cmp (or_in (hu65 hr)) (de_var (pv 2)) (DF.de (df_meth D_Net_ways hr (by decide) tk (de_fld (de_var (pv 0)) B.k_Times B.n_Times_net) (da_cons (de_var (pv 1)) da_nil)))) (dss_one (ds_retV (pv 2))) dss_nil)
  (dss_cons (ds_if (dt_cmp (or_nin (hu65 hr)) (DQ.de (dq_tup (da_cons (de_var (pv 1)) (da_cons (de_var (pv 2)) da_nil)))) (de_fld (de_var (pv 0)) B.k_Times B.n_Times_before)) (dss_one (ds_retV (pv 1))) dss_nil)
  (dss_one (ds_ret (df_meth D_Times_best hr (by decide) tk (de_var (pv 0)) (da_cons (de_var (pv 1)) (da_cons (de_var (pv 2)) da_nil)))))))
theorem sc_Times_step_u : FnScope N_Times_step_u ["self", "turns"] (defScope s_Times_step_u) := ⟨rfl, rfl, rfl, by decide +kernel, rfl, by decide +kernel, by decide +kernel⟩
theorem ok_Times_step_u (B : Facts K w mg) (r : RawM K mg "Times" "_step" "Times._step" s_Times_step_u ["self", "turns"]) (D_Net_ways : MethD P w K mg base 1 2 "Net" "ways" f_Net_ways) : MethIO P w K mg base 2 1 "Times" "_step" f_Times_step_u :=
  okMIO r sc_Times_step_u rfl fun f cdv A outer s H E hr tk => by
    unfold g_Times_step_u
    exact (dss_cons (ds_setF df_dt sc_Times_step_u.nd)
  (dss_cons (ds_pre [1, 1, 1, 0, 0, 0] (ds_forF (dif_rng1 B.b_range (da_cons (de_fld (de_fld (de_var (pv 0)) B.k_Times B.n_Times_net) B.k_Net B.n_Net_size) da_nil)) (dg_name sc_Times_step_u.nd)
  (dss_mask [1, 1, 1, 0, 0, 0] (dss_one (ds_pre [1, 1, 1, 1, 0, 0] (ds_forF (dif_rng1 B.b_range (da_cons (de_fld (de_fld (de_var (pv 0)) B.k_Times B.n_Times_net) B.k_Net B.n_Net_size) da_nil)) (dg_name sc_Times_step_u.nd)
  (dss_mask [1, 1, 1, 1, 0, 0] (dss_one (ds_if (dt_cmp (or_nin (hu65 hr)) (DQ.de (dq_tup (da_cons (de_var (pv 3)) (da_cons (de_var (pv 4)) da_nil)))) (de_fld (de_var (pv 0)) B.k_Times B.n_Times_before)) (dss_one (ds_if (dt_val (DQ.de (dq_callB (cr_anyD rfl) B.b_any bt_any (da_cons (DQ.de (dq_comp (di_any (DF.de (df_meth D_Net_ways hr (by decide) tk (de_fld (de_var (pv 0)) B.k_Times B.n_Times_net) (da_cons (de_var (pv 3)) da_nil)))) sc_Times_step_u.nd (blkOk_by (N := N_Times_step_u) (sc := defScope s_Times_step_u) (own := [("one", 5)]) (by decide +kernel)) (fun _ _ _ _ _ => (dg_name sc_Times_step_u.nd)) (fun _ _ _ _ _ => dts_nil) (fun _ _ _ _ _ => (de_cmp (or_in (hu65 hr)) (DQ.de (dq_tup (da_cons (de_var (pv 5)) (da_cons (de_var (pv 4)) da_nil)))) (de_fld (de_var (pv 0)) B.k_Times B.n_Times_behind))))) da_nil)))) (dss_one (ds_setP (hu1 hr) (df_imm (de_bin or_add (de_var (pv 1)) de_int)) (dpx_v (pv 2)) (DQ.de (dq_tup (da_cons (de_var (pv 3)) (da_cons (de_var (pv 4)) da_nil)))))) dss_nil)) dss_nil))) (passes_of rfl))))) (passes_of rfl)))
  (dss_cons (ds_updP (hu1 hr) (dpx_f (dpx_v (pv 0)) B.k_Times B.n_Times_before) (pv 2))
  (dss_cons (ds_pre [1, 1, 1, 0, 0, 0] (ds_forF (dif_rng1 B.b_range (da_cons (de_fld (de_fld (de_var (pv 0)) B.k_Times B.n_Times_net) B.k_Net B.n_Net_size) da_nil)) (dg_name sc_Times_step_u.nd)
  (dss_mask [1, 1, 1, 0, 0, 0] (dss_one (ds_pre [1, 1, 1, 1, 0, 0] (ds_forF (dif_rng1 B.b_range (da_cons (de_fld (de_fld (de_var (pv 0)) B.k_Times B.n_Times_net) B.k_Net B.n_Net_size) da_nil)) (dg_name sc_Times_step_u.nd)
  (dss_mask [1, 1, 1, 1, 0, 0] (dss_one (ds_if (dt_cmp (or_nin (hu65 hr)) (DQ.de (dq_tup (da_cons (de_var (pv 3)) (da_cons (de_var (pv 4)) da_nil)))) (de_fld (de_var (pv 0)) B.k_Times B.n_Times_behind)) (dss_one (ds_if (dt_val (DQ.de (dq_callB (cr_allD rfl) B.b_all bt_all (da_cons (DQ.de (dq_comp (di_any (DF.de (df_meth D_Net_ways hr (by decide) tk (de_fld (de_var (pv 0)) B.k_Times B.n_Times_net) (da_cons (de_var (pv 4)) da_nil)))) sc_Times_step_u.nd (blkOk_by (N := N_Times_step_u) (sc := defScope s_Times_step_u) (own := [("one", 5)]) (by decide +kernel)) (fun _ _ _ _ _ => (dg_name sc_Times_step_u.nd)) (fun _ _ _ _ _ => dts_nil) (fun _ _ _ _ _ => (de_cmp (or_in (hu65 hr)) (DQ.de (dq_tup (da_cons (de_var (pv 3)) (da_cons (de_var (pv 5)) da_nil)))) (de_fld (de_var (pv 0)) B.k_Times B.n_Times_before))))) da_nil)))) (dss_one (ds_setP (hu1 hr) (df_imm (de_bin or_add (de_var (pv 1)) de_int)) (dpx_f (dpx_v (pv 0)) B.k_Times B.n_Times_behind) (DQ.de (dq_tup (da_cons (de_var (pv 3)) (da_cons (de_var (pv 4)) da_nil)))))) dss_nil)) dss_nil))) (passes_of rfl))))) (passes_of rfl)))
  (dss_one (ds_retIO (de_cmp or_gt (DQ.de (dq_callB cr_len B.b_len bt_len (da_cons (de_var (pv 2)) da_nil))) de_int)))))))
theorem sc_Times_init : FnScope N_Times_init ["self", "net"] (defScope s_Times_init) := ⟨rfl, rfl, rfl, by decide +kernel, rfl, by decide +kernel, by decide +kernel⟩
theorem ok_Times_init (B : Facts K w mg) (r : RawI K mg "Times" "Times.__init__" s_Times_init ["self", "net"]) (D_Times_step_u : MethIO P w K mg base 2 1 "Times" "_step" f_Times_step_u) : MakeD P w K mg base 3 1 "Times" f_Times_init :=
  okMI r sc_Times_init rfl fun f cdv A outer s H E hr tk => by
    unfold g_Times_init
    exact (dss_cons (ds_fldF (df_imm (de_var (pv 1))) (pv 0) B.k_Times B.n_Times_net)
  (dss_cons (ds_fldF (df_dcomp (new := (.dt [] [])) rfl (hu0 hr) (DIF.di (dif_rng1 B.b_range (da_cons (de_fld (de_var (pv 1)) B.k_Net B.n_Net_size) da_nil))) sc_Times_init.nd (blkOk_by (N := N_Times_init) (sc := defScope s_Times_init) (own := [("place", 3)]) (by decide +kernel)) (fun _ _ _ _ _ => (dg_name sc_Times_init.nd)) (fun _ _ _ _ _ => dts_nil) (fun _ _ _ _ _ => (DQ.de (dq_tup (da_cons (de_var (pv 3)) (da_cons (de_var (pv 3)) da_nil))))) (fun _ _ _ _ _ => (df_imm de_int))) (pv 0) B.k_Times B.n_Times_before)
  (dss_cons (ds_fldF (df_dcomp (new := (.dt [] [])) rfl (hu0 hr) (DIF.di (dif_rng1 B.b_range (da_cons (de_fld (de_var (pv 1)) B.k_Net B.n_Net_size) da_nil))) sc_Times_init.nd (blkOk_by (N := N_Times_init) (sc := defScope s_Times_init) (own := [("place", 3)]) (by decide +kernel)) (fun _ _ _ _ _ => (dg_name sc_Times_init.nd)) (fun _ _ _ _ _ => dts_nil) (fun _ _ _ _ _ => (DQ.de (dq_tup (da_cons (de_var (pv 3)) (da_cons (de_var (pv 3)) da_nil))))) (fun _ _ _ _ _ => (df_imm de_int))) (pv 0) B.k_Times B.n_Times_behind)
  (dss_cons (ds_setI de_int sc_Times_init.nd)
  (dss_one (ds_pre [1, 0, 1, 0] (ds_whileM (dmt_val (dm_io D_Times_step_u hr (by decide) tk (pv 0) (da_cons (de_var (pv 2)) da_nil)))
  (dss_mask [1, 0, 1, 0] (dss_one (ds_aug ip_addD de_int sc_Times_init.nd))) (passes_of rfl))))))))
theorem sc_chaser_goes : FnScope N_chaser_goes ["net", "chaser", "thief"] (defScope s_chaser_goes) := ⟨rfl, rfl, rfl, by decide +kernel, rfl, by decide +kernel, by decide +kernel⟩
theorem ok_chaser_goes (B : Facts K w mg) (r : RawD K mg "chaser_goes" s_chaser_goes ["net", "chaser", "thief"]) (D_check_place : DefD P w K mg base 2 2 "check_place" f_check_place) (D_chaser_goes_u : DefD P w K mg base 3 3 "_chaser_goes" f_chaser_goes_u) (D_Times_init : MakeD P w K mg base 3 1 "Times" f_Times_init) : DefD P w K mg base 5 3 "chaser_goes" f_chaser_goes :=
  okDD r sc_chaser_goes rfl fun f cdv A outer s H E hr tk => by
    unfold g_chaser_goes
    exact (dss_cons (ds_expr (DF.de (df_call D_check_place hr (by decide) tk (da_cons (de_var (pv 0)) (da_cons (de_var (pv 1)) da_nil)))))
  (dss_cons (ds_expr (DF.de (df_call D_check_place hr (by decide) tk (da_cons (de_var (pv 0)) (da_cons (de_var (pv 2)) da_nil)))))
  (dss_one (ds_ret (df_call D_chaser_goes_u hr (by decide) tk (da_cons (DF.de (df_make D_Times_init hr (by decide) tk (da_cons (de_var (pv 0)) da_nil))) (da_cons (de_var (pv 1)) (da_cons (de_var (pv 2)) da_nil))))))))
theorem sc_Times_worst : FnScope N_Times_worst ["self", "chaser", "thief"] (defScope s_Times_worst) := ⟨rfl, rfl, rfl, by decide +kernel, rfl, by decide +kernel, by decide +kernel⟩
theorem ok_Times_worst (B : Facts K w mg) (r : RawM K mg "Times" "worst" "Times.worst" s_Times_worst ["self", "chaser", "thief"]) (D_Net_ways : MethD P w K mg base 1 2 "Net" "ways" f_Net_ways) : MethD P w K mg base 2 3 "Times" "worst" f_Times_worst :=
  okMM r sc_Times_worst rfl fun f cdv A outer s H E hr tk => by
    unfold g_Times_worst
    exact (dss_cons (ds_setLcT (di_any (DF.de (df_meth D_Net_ways hr (by decide) tk (de_fld (de_var (pv 0)) B.k_Times B.n_Times_net) (da_cons (de_var (pv 2)) da_nil)))) sc_Times_worst.nd (blkOk_by (N := N_Times_worst) (sc := defScope s_Times_worst) (own := [("one", 4)]) (by decide +kernel)) (fun _ _ _ _ _ => (dg_name sc_Times_worst.nd)) (fun _ _ _ _ _ => (dts_one (dt_cmp (or_nin (hu65 hr)) (DQ.de (dq_tup (da_cons (de_var (pv 1)) (da_cons (de_var (pv 4)) da_nil)))) (de_fld (de_var (pv 0)) B.k_Times B.n_Times_before)))) (fun _ _ _ _ _ => (de_var (pv 4))))
  (dss_cons (ds_if (dt_cmp or_gt (DQ.de (dq_callB cr_len B.b_len bt_len (da_cons (de_var (pv 3)) da_nil))) de_int) (dss_one (ds_ret (df_imm (de_ix (hu1 hr) (de_var (pv 3)) de_int)))) dss_nil)
  (dss_one (ds_ret (df_imm (de_ix (hu1 hr) (DQ.de (dq_callB (cr_minG rfl (hu64 hr)) B.b_min bt_min (da_cons (DQ.de (dq_comp (di_any (DF.de (df_meth D_Net_ways hr (by decide) tk (de_fld (de_var (pv 0)) B.k_Times B.n_Times_net) (da_cons (de_var (pv 2)) da_nil)))) sc_Times_worst.nd (blkOk_by (N := N_Times_worst) (sc := defScope s_Times_worst) (own := [("one", 4)]) (by decide +kernel)) (fun _ _ _ _ _ => (dg_name sc_Times_worst.nd)) (fun _ _ _ _ _ => dts_nil) (fun _ _ _ _ _ => (DQ.de (dq_tup (da_cons (de_bin or_sub de_int (de_ix (hu1 hr) (de_fld (de_var (pv 0)) B.k_Times B.n_Times_before) (DQ.de (dq_tup (da_cons (de_var (pv 1)) (da_cons (de_var (pv 4)) da_nil)))))) (da_cons (de_var (pv 4)) da_nil))))))) da_nil))) de_int))))))
theorem sc_thief_goes_u : FnScope N_thief_goes_u ["times", "chaser", "thief"] (defScope s_thief_goes_u) := ⟨rfl, rfl, rfl, by decide +kernel, rfl, by decide +kernel, by decide +kernel⟩
theorem ok_thief_goes_u (B : Facts K w mg) (r : RawD K mg "_thief_goes" s_thief_goes_u ["times", "chaser", "thief"]) (D_Times_worst : MethD P w K mg base 2 3 "Times" "worst" f_Times_worst) : DefD P w K mg base 3 3 "_thief_goes" f_thief_goes_u :=
  okDD r sc_thief_goes_u rfl fun f cdv A outer s H E hr tk => by
    unfold g_thief_goes_u
    exact (dss_one (ds_ret (df_if (dt_cmp (or_eq (hu64 hr)) (de_var (pv 1)) (de_var (pv 2))) (df_imm (de_var (pv 2))) (df_meth D_Times_worst hr (by decide) tk (de_var (pv 0)) (da_cons (de_var (pv 1)) (da_cons (de_var (pv 2)) da_nil))))))
theorem sc_thief_goes : FnScope N_thief_goes ["net", "chaser", "thief"] (defScope s_thief_goes) := ⟨rfl, rfl, rfl, by decide +kernel, rfl, by decide +kernel, by decide +kernel⟩
theorem ok_thief_goes (B : Facts K w mg) (r : RawD K mg "thief_goes" s_thief_goes ["net", "chaser", "thief"]) (D_check_place : DefD P w K mg base 2 2 "check_place" f_check_place) (D_Times_init : MakeD P w K mg base 3 1 "Times" f_Times_init) (D_thief_goes_u : DefD P w K mg base 3 3 "_thief_goes" f_thief_goes_u) : DefD P w K mg base 5 3 "thief_goes" f_thief_goes :=
  okDD r sc_thief_goes rfl fun f cdv A outer s H E hr tk => by
    unfold g_thief_goes
    exact (dss_cons (ds_expr (DF.de (df_call D_check_place hr (by decide) tk (da_cons (de_var (pv 0)) (da_cons (de_var (pv 1)) da_nil)))))
  (dss_cons (ds_expr (DF.de (df_call D_check_place hr (by decide) tk (da_cons (de_var (pv 0)) (da_cons (de_var (pv 2)) da_nil)))))
  (dss_one (ds_ret (df_call D_thief_goes_u hr (by decide) tk (da_cons (DF.de (df_make D_Times_init hr (by decide) tk (da_cons (de_var (pv 0)) da_nil))) (da_cons (de_var (pv 1)) (da_cons (de_var (pv 2)) da_nil))))))))
theorem sc_law_behind_u : FnScope N_law_behind_u ["times", "ways", "there", "t"] (defScope s_law_behind_u) := ⟨rfl, rfl, rfl, by decide +kernel, rfl, by decide +kernel, by decide +kernel⟩
theorem ok_law_behind_u (B : Facts K w mg) (r : RawD K mg "_law_behind" s_law_behind_u ["times", "ways", "there", "t"])  : DefD P w K mg base 1 4 "_law_behind" f_law_behind_u :=
  okDD r sc_law_behind_u rfl fun f cdv A outer s H E hr tk => by
    unfold g_law_behind_u
    exact (dss_one (ds_ret (df_if (dt_cmp (or_eq (hu64 hr)) (de_var (pv 2)) (de_var (pv 3))) (df_imm de_int) (df_imm (DQ.de (dq_callB (cr_maxG rfl (hu64 hr)) B.b_max bt_max (da_cons (DQ.de (dq_comp (di_any (de_ix (hu1 hr) (de_var (pv 1)) (de_var (pv 3)))) sc_law_behind_u.nd (blkOk_by (N := N_law_behind_u) (sc := defScope s_law_behind_u) (own := [("away", 4)]) (by decide +kernel)) (fun _ _ _ _ _ => (dg_name sc_law_behind_u.nd)) (fun _ _ _ _ _ => dts_nil) (fun _ _ _ _ _ => (de_ix (hu1 hr) (de_ix (hu1 hr) (de_var (pv 0)) (de_var (pv 2))) (de_var (pv 4)))))) da_nil)))))))
theorem sc_law_chaser_u : FnScope N_law_chaser_u ["times", "ways", "c", "t"] (defScope s_law_chaser_u) := ⟨rfl, rfl, rfl, by decide +kernel, rfl, by decide +kernel, by decide +kernel⟩
theorem ok_law_chaser_u (B : Facts K w mg) (r : RawD K mg "_law_chaser" s_law_chaser_u ["times", "ways", "c", "t"]) (D_law_behind_u : DefD P w K mg base 1 4 "_law_behind" f_law_behind_u) : DefD P w K mg base 2 4 "_law_chaser" f_law_chaser_u :=
  okDD r sc_law_chaser_u rfl fun f cdv A outer s H E hr tk => by
    unfold g_law_chaser_u
    exact (dss_cons (ds_if (dt_cmp (or_in (hu65 hr)) (de_var (pv 3)) (de_ix (hu1 hr) (de_var (pv 1)) (de_var (pv 2)))) (dss_one (ds_retV (pv 3))) dss_nil)
  (dss_cons (ds_if (dt_cmp (or_eq (hu64 hr)) (de_ix (hu1 hr) (de_ix (hu1 hr) (de_var (pv 0)) (de_var (pv 2))) (de_var (pv 3))) de_int) (dss_one (ds_retV (pv 2))) dss_nil)
  (dss_cons (ds_setLcF (di_any (de_ix (hu1 hr) (de_var (pv 1)) (de_var (pv 2)))) sc_law_chaser_u.nd (blkOk_by (N := N_law_chaser_u) (sc := defScope s_law_chaser_u) (own := [("there", 5)]) (by decide +kernel)) (fun _ _ _ _ _ => (dg_name sc_law_chaser_u.nd)) (fun _ _ _ _ _ => dts_nil) (fun _ _ _ _ _ => (df_call D_law_behind_u hr (by decide) takes0 (da_cons (de_var (pv 0)) (da_cons (de_var (pv 1)) (da_cons (de_var (pv 5)) (da_cons (de_var (pv 3)) da_nil)))))))
  (dss_one (ds_ret (df_imm (de_ix (hu1 hr) (de_ix (hu1 hr) (de_var (pv 1)) (de_var (pv 2))) (de_index (de_var (pv 4)) (DQ.de (dq_callB (cr_minG rfl (hu64 hr)) B.b_min bt_min (da_cons (de_var (pv 4)) da_nil)))))))))))
theorem sc_law_thief_u : FnScope N_law_thief_u ["times", "ways", "c", "t"] (defScope s_law_thief_u) := ⟨rfl, rfl, rfl, by decide +kernel, rfl, by decide +kernel, by decide +kernel⟩
theorem ok_law_thief_u (B : Facts K w mg) (r : RawD K mg "_law_thief" s_law_thief_u ["times", "ways", "c", "t"])  : DefD P w K mg base 1 4 "_law_thief" f_law_thief_u :=
  okDD r sc_law_thief_u rfl fun f cdv A outer s H E hr tk => by
    unfold g_law_thief_u
    exact (dss_cons (ds_if (dt_cmp (or_eq (hu64 hr)) (de_var (pv 2)) (de_var (pv 3))) (dss_one (ds_retV (pv 3))) dss_nil)
  (dss_cons (ds_setLcT (di_any (de_ix (hu1 hr) (de_var (pv 1)) (de_var (pv 3)))) sc_law_thief_u.nd (blkOk_by (N := N_law_thief_u) (sc := defScope s_law_thief_u) (own := [("away", 5)]) (by decide +kernel)) (fun _ _ _ _ _ => (dg_name sc_law_thief_u.nd)) (fun _ _ _ _ _ => dts_nil) (fun _ _ _ _ _ => (de_ix (hu1 hr) (de_ix (hu1 hr) (de_var (pv 0)) (de_var (pv 2))) (de_var (pv 5)))))
  (dss_one (ds_ret (df_imm (de_ix (hu1 hr) (de_ix (hu1 hr) (de_var (pv 1)) (de_var (pv 3))) (de_index (de_var (pv 4)) (DQ.de (dq_callB (cr_maxG rfl (hu64 hr)) B.b_max bt_max (da_cons (de_var (pv 4)) da_nil))))))))))
theorem sc_law_refused_u : FnScope N_law_refused_u ["call", "net", "chaser", "thief"] (defScope s_law_refused_u) := ⟨rfl, rfl, rfl, by decide +kernel, rfl, by decide +kernel, by decide +kernel⟩
theorem ok_law_refused_u (B : Facts K w mg) (r : RawD K mg "_law_refused" s_law_refused_u ["call", "net", "chaser", "thief"]) (D_chaser_goes : DefD P w K mg base 5 3 "chaser_goes" f_chaser_goes) (D_thief_goes : DefD P w K mg base 5 3 "thief_goes" f_thief_goes) : DefD P w K mg base 6 4 "_law_refused" f_law_refused_u :=
  okDD r sc_law_refused_u rfl fun f cdv A outer s H E hr tk => by
    unfold g_law_refused_u
    exact (dss_cons (ds_tryD (exc_there B.e_BadPlace) tk (fun p hp => by simp only [List.mem_cons, List.not_mem_nil, or_false] at hp; rcases hp with rfl <;> first | exact B.t_BadPlace_BadPlace) (fun W1 pn1 xe1 tk1 pas1 => (dss_one (ds_if (dt_cmp (or_eq (hu64 hr)) (de_var (pv 0)) de_int) (dss_one (ds_expr (DF.de (df_call D_chaser_goes hr (by decide) tk1 (da_cons (de_var (pv 1)) (da_cons (de_var (pv 2)) (da_cons (de_var (pv 3)) da_nil))))))) (dss_one (ds_expr (DF.de (df_call D_thief_goes hr (by decide) tk1 (da_cons (de_var (pv 1)) (da_cons (de_var (pv 2)) (da_cons (de_var (pv 3)) da_nil)))))))))) (fun _ _ _ _ _ => (dss_one (ds_ret (df_imm de_bl)))))
  (dss_one (ds_ret (df_imm de_bl))))
theorem sc_law : FnScope N_law ["script"] (defScope s_law) := ⟨rfl, rfl, rfl, by decide +kernel, rfl, by decide +kernel, by decide +kernel⟩
theorem ok_law (B : Facts K w mg) (r : RawD K mg "law" s_law ["script"]) (D_law_draws_u : ∀ base, DefD P w K mg base 1 2 "_law_draws" f_law_draws_u) (D_law_net_u : ∀ base, DefD P w K mg base 1 3 "_law_net" f_law_net_u) (D_law_times_u : ∀ base, DefD P w K mg base 1 2 "_law_times" f_law_times_u) (D_Net_init : ∀ base, MakeD P w K mg base 3 2 "Net" f_Net_init) (D_law_ways_u : ∀ base, DefD P w K mg base 1 2 "_law_ways" f_law_ways_u) (D_chaser_goes : ∀ base, DefD P w K mg base 5 3 "chaser_goes" f_chaser_goes) (D_thief_goes : ∀ base, DefD P w K mg base 5 3 "thief_goes" f_thief_goes) (D_law_chaser_u : ∀ base, DefD P w K mg base 2 4 "_law_chaser" f_law_chaser_u) (D_law_thief_u : ∀ base, DefD P w K mg base 1 4 "_law_thief" f_law_thief_u) (D_law_refused_u : ∀ base, DefD P w K mg base 6 4 "_law_refused" f_law_refused_u) : LawD P w K mg 7 f_law :=
  okLL r sc_law fun base f cdv A outer s H E hr tk => by
    have D_law_draws_u := D_law_draws_u base
    have D_law_net_u := D_law_net_u base
    have D_law_times_u := D_law_times_u base
    have D_Net_init := D_Net_init base
    have D_law_ways_u := D_law_ways_u base
    have D_chaser_goes := D_chaser_goes base
    have D_thief_goes := D_thief_goes base
    have D_law_chaser_u := D_law_chaser_u base
    have D_law_thief_u := D_law_thief_u base
    have D_law_refused_u := D_law_refused_u base
    unfold g_law
    exact (dss_cons (ds_setF (df_call D_law_draws_u hr (by decide) tk (da_cons (de_var (pv 0)) (da_cons de_int da_nil))) sc_law.nd)
  (dss_cons (ds_pre [0, 1, 0, 0, 0, 0, 0, 0, 0, 0, 0, 0, 0, 0] (ds_forF (dif_rng1 B.b_range (da_cons de_int da_nil)) (dg_name sc_law.nd)
  (dss_mask [0, 1, 0, 0, 0, 0, 0, 0, 0, 0, 0, 0, 0, 0] (dss_cons (ds_putF (df_call D_law_net_u hr (by decide) tk (da_cons (de_var (pv 1)) (da_cons (de_bin or_mul de_int (de_var (pv 2))) (da_cons (de_ix (hu1 hr) (DQ.de (dq_lst (da_cons de_int (da_cons de_int (da_cons de_int da_nil))))) (de_var (pv 2))) da_nil)))) (dg_tup (dgs_cons (dg_name sc_law.nd) (dgs_cons (dg_name sc_law.nd) dgs_nil))))
  (dss_cons (ds_pars2 (daf_cons (df_frz (df_make D_Net_init hr (by decide) tk (da_cons (de_var (pv 6)) (da_cons (de_var (pv 7)) da_nil)))) (daf_cons (df_call D_law_ways_u hr (by decide) tk (da_cons (de_var (pv 6)) (da_cons (de_var (pv 7)) da_nil))) daf_nil)) sc_law.nd)
  (dss_cons (ds_setF (df_call D_law_times_u hr (by decide) tk (da_cons (de_var (pv 6)) (da_cons (de_var (pv 9)) da_nil))) sc_law.nd)
  (dss_cons (ds_pre [0, 1, 0, 1, 0, 0, 1, 0, 1, 1, 0, 0, 0, 0] (ds_forF (dif_rng1 B.b_range (da_cons (de_var (pv 6)) da_nil)) (dg_name sc_law.nd)
  (dss_mask [0, 1, 0, 1, 0, 0, 1, 0, 1, 1, 0, 0, 0, 0] (dss_one (ds_pre [0, 1, 0, 1, 1, 0, 1, 0, 1, 1, 0, 0, 0, 0] (ds_forF (dif_rng1 B.b_range (da_cons (de_var (pv 6)) da_nil)) (dg_name sc_law.nd)
  (dss_mask [0, 1, 0, 1, 1, 0, 1, 0, 1, 1, 0, 0, 0, 0] (dss_cons (ds_pars2 (daf_cons (df_call D_chaser_goes hr (by decide) tk (da_cons (de_var (pv 8)) (da_cons (de_var (pv 4)) (da_cons (de_var (pv 10)) da_nil)))) (daf_cons (df_call D_thief_goes hr (by decide) tk (da_cons (de_var (pv 8)) (da_cons (de_var (pv 4)) (da_cons (de_var (pv 10)) da_nil)))) daf_nil)) sc_law.nd)
  (dss_one (ds_if (PW.pt (dw_or (dt_cmp (or_ne (hu64 hr)) (de_var (pv 12)) (DF.de (df_call D_law_chaser_u hr (by decide) tk (da_cons (de_var (pv 3)) (da_cons (de_var (pv 9)) (da_cons (de_var (pv 4)) (da_cons (de_var (pv 10)) da_nil))))))) (dw_or (dt_cmp (or_ne (hu64 hr)) (de_var (pv 13)) (DF.de (df_call D_law_thief_u hr (by decide) tk (da_cons (de_var (pv 3)) (da_cons (de_var (pv 9)) (da_cons (de_var (pv 4)) (da_cons (de_var (pv 10)) da_nil))))))) (dw_or (dt_val (DQ.de (dq_callB cr_isi B.b_isinstance bt_isinstance (da_cons (de_var (pv 12)) (da_cons (de_ty B.b_bool bt_bool) da_nil))))) (dw_or1 (dt_val (DQ.de (dq_callB cr_isi B.b_isinstance bt_isinstance (da_cons (de_var (pv 13)) (da_cons (de_ty B.b_bool bt_bool) da_nil)))))))))) (dss_one (ds_ret (df_imm de_bl))) dss_nil)))) (passes_of rfl))))) (passes_of rfl)))
  (dss_one (ds_pre [0, 1, 0, 0, 0, 0, 1, 0, 1, 0, 0, 0, 0, 0] (ds_forF (dif_any (DQ.df (dq_lst (da_cons (de_neg de_int) (da_cons (de_var (pv 6)) (da_cons de_bl (da_cons de_non (da_cons de_str (da_cons (DQ.de (dq_tup (da_cons de_int da_nil))) da_nil))))))))) (dg_name sc_law.nd)
  (dss_mask [0, 1, 0, 0, 0, 0, 1, 0, 1, 0, 0, 0, 0, 0] (dss_one (ds_pre [0, 1, 0, 0, 0, 1, 1, 0, 1, 0, 0, 0, 0, 0] (ds_forF (dif_rng1 B.b_range (da_cons de_int da_nil)) (dg_name sc_law.nd)
  (dss_mask [0, 1, 0, 0, 0, 1, 1, 0, 1, 0, 0, 0, 0, 0] (dss_one (ds_if (PW.pt (dw_or (dt_not (dt_val (DF.de (df_call D_law_refused_u hr (by decide) tk (da_cons (de_var (pv 11)) (da_cons (de_var (pv 8)) (da_cons (de_var (pv 5)) (da_cons de_int da_nil)))))))) (dw_or1 (dt_not (dt_val (DF.de (df_call D_law_refused_u hr (by decide) tk (da_cons (de_var (pv 11)) (da_cons (de_var (pv 8)) (da_cons de_int (da_cons (de_var (pv 5)) da_nil))))))))))) (dss_one (ds_ret (df_imm de_bl))) dss_nil))) (passes_of rfl))))) (passes_of rfl))))))))) (passes_of rfl)))
  (dss_one (ds_ret (df_imm de_bl)))))
end
theorem facts_mk {K : PySem.W.Frag} {w : World} {h : Heap} {mg : Str → Option Value} (X : K.In h) (G : h.Ns mainGlobals mg)
    (z_abs : PySem.W.nsIn K mainGlobals "abs" = some none)
    (z_all : PySem.W.nsIn K mainGlobals "all" = some none)
    (z_any : PySem.W.nsIn K mainGlobals "any" = some none)
    (z_bool : PySem.W.nsIn K mainGlobals "bool" = some none)
    (z_int : PySem.W.nsIn K mainGlobals "int" = some none)
    (z_isinstance : PySem.W.nsIn K mainGlobals "isinstance" = some none)
    (z_len : PySem.W.nsIn K mainGlobals "len" = some none)
    (z_list : PySem.W.nsIn K mainGlobals "list" = some none)
    (z_max : PySem.W.nsIn K mainGlobals "max" = some none)
    (z_min : PySem.W.nsIn K mainGlobals "min" = some none)
    (z_range : PySem.W.nsIn K mainGlobals "range" = some none)
    (z_set : PySem.W.nsIn K mainGlobals "set" = some none)
    (z_sorted : PySem.W.nsIn K mainGlobals "sorted" = some none)
    (z_tuple : PySem.W.nsIn K mainGlobals "tuple" = some none)
    {t_MOST_PLACES : Tok} (y_MOST_PLACES : PySem.W.nsIn K mainGlobals "MOST_PLACES" = some (some (.int 24 t_MOST_PLACES)))
    {C_BadNet : Addr} (e1_BadNet : PySem.W.nsIn K mainGlobals "BadNet" = some (some (.ref C_BadNet))) (e2_BadNet : PySem.W.excIn K C_BadNet [.type "ValueError", .type "Exception", .type "BaseException", .type "object"] "ValueError.__new__" = true) (e3_BadNet : PySem.W.keepIn K (.ref C_BadNet) = true) (e4_BadNet : PySem.W.subIn K (.ref C_BadNet) (.type "BaseException") = some true) (e5_BadNet : PySem.W.typeIn K (.ref C_BadNet) = some (.type "type")) (e6_BadNet : PySem.W.isClsIn K C_BadNet = true)
    {C_BadPlace : Addr} (e1_BadPlace : PySem.W.nsIn K mainGlobals "BadPlace" = some (some (.ref C_BadPlace))) (e2_BadPlace : PySem.W.excIn K C_BadPlace [.type "ValueError", .type "Exception", .type "BaseException", .type "object"] "ValueError.__new__" = true) (e3_BadPlace : PySem.W.keepIn K (.ref C_BadPlace) = true) (e4_BadPlace : PySem.W.subIn K (.ref C_BadPlace) (.type "BaseException") = some true) (e5_BadPlace : PySem.W.typeIn K (.ref C_BadPlace) = some (.type "type")) (e6_BadPlace : PySem.W.isClsIn K C_BadPlace = true)
    {A_Net : Addr} (k1_Net : PySem.W.nsIn K mainGlobals "Net" = some (some (.ref A_Net))) (k2_Net : PySem.W.plainGet K A_Net Str.empty = true) (k3_Net : PySem.W.hasDictIn K A_Net = true) (k4_Net : PySem.W.plainOver K A_Net = true) (k5_Net : PySem.W.findIn K (.ref A_Net) "__setattr__" = some (some (.builtin "object.__setattr__"))) (k6_Net : PySem.W.makesIn K A_Net = true) (k7_Net : PySem.W.keepIn K (.ref A_Net) = true)
    {A_Times : Addr} (k1_Times : PySem.W.nsIn K mainGlobals "Times" = some (some (.ref A_Times))) (k2_Times : PySem.W.plainGet K A_Times Str.empty = true) (k3_Times : PySem.W.hasDictIn K A_Times = true) (k4_Times : PySem.W.plainOver K A_Times = true) (k5_Times : PySem.W.findIn K (.ref A_Times) "__setattr__" = some (some (.builtin "object.__setattr__"))) (k6_Times : PySem.W.makesIn K A_Times = true) (k7_Times : PySem.W.keepIn K (.ref A_Times) = true)
    (nf_Net__near : PySem.W.findIn K (.ref A_Net) "_near" = some none)
    (nf_Net_pairs : PySem.W.findIn K (.ref A_Net) "pairs" = some none)
    (nf_Net_size : PySem.W.findIn K (.ref A_Net) "size" = some none)
    (nf_Times_before : PySem.W.findIn K (.ref A_Times) "before" = some none)
    (nf_Times_behind : PySem.W.findIn K (.ref A_Times) "behind" = some none)
    (nf_Times_net : PySem.W.findIn K (.ref A_Times) "net" = some none)
    (x_BadPlace_BadPlace : PySem.W.subIn K (.ref C_BadPlace) (.ref C_BadPlace) = some true) : Facts K w mg := ⟨PySem.W.mg_none_of X G z_abs, PySem.W.mg_none_of X G z_all, PySem.W.mg_none_of X G z_any, PySem.W.mg_none_of X G z_bool, PySem.W.mg_none_of X G z_int, PySem.W.mg_none_of X G z_isinstance, PySem.W.mg_none_of X G z_len, PySem.W.mg_none_of X G z_list, PySem.W.mg_none_of X G z_max, PySem.W.mg_none_of X G z_min, PySem.W.mg_none_of X G z_range, PySem.W.mg_none_of X G z_set, PySem.W.mg_none_of X G z_sorted, PySem.W.mg_none_of X G z_tuple, ⟨_, PySem.W.mg_of X G y_MOST_PLACES⟩, ⟨C_BadNet, PySem.W.mg_of X G e1_BadNet, e2_BadNet, e3_BadNet, e4_BadNet, e5_BadNet⟩, ⟨C_BadPlace, PySem.W.mg_of X G e1_BadPlace, e2_BadPlace, e3_BadPlace, e4_BadPlace, e5_BadPlace⟩, ⟨A_Net, PySem.W.mg_of X G k1_Net, ⟨k2_Net, k3_Net, k4_Net, k5_Net⟩⟩, ⟨A_Times, PySem.W.mg_of X G k1_Times, ⟨k2_Times, k3_Times, k4_Times, k5_Times⟩⟩, fldD_mk (PySem.W.mg_of X G k1_Net) nf_Net__near, fldD_mk (PySem.W.mg_of X G k1_Net) nf_Net_pairs, fldD_mk (PySem.W.mg_of X G k1_Net) nf_Net_size, fldD_mk (PySem.W.mg_of X G k1_Times) nf_Times_before, fldD_mk (PySem.W.mg_of X G k1_Times) nf_Times_behind, fldD_mk (PySem.W.mg_of X G k1_Times) nf_Times_net, catD_mk (PySem.W.mg_of X G e1_BadPlace) (PySem.W.mg_of X G e1_BadPlace) (exm_sub e4_BadPlace e6_BadPlace e5_BadPlace x_BadPlace_BadPlace)⟩
theorem all_ok {P : Program} {w : World} {K : PySem.W.Frag} {mg : Str → Option Value} (B : Facts K w mg) (r_law_draws_u : RawD K mg "_law_draws" s_law_draws_u ["script", "many"])
    (r_law_net_u : RawD K mg "_law_net" s_law_net_u ["draws", "at", "most"])
    (r_law_times_u : RawD K mg "_law_times" s_law_times_u ["size", "ways"])
    (r_is_whole : RawD K mg "is_whole" s_is_whole ["value", "least", "most"])
    (r_are_pairs_u : RawD K mg "_are_pairs" s_are_pairs_u ["size", "value"])
    (r_Net_init : RawI K mg "Net" "Net.__init__" s_Net_init ["self", "size", "pairs"])
    (r_law_ways_u : RawD K mg "_law_ways" s_law_ways_u ["size", "pairs"])
    (r_check_place : RawD K mg "check_place" s_check_place ["net", "value"])
    (r_Net_ways : RawM K mg "Net" "ways" "Net.ways" s_Net_ways ["self", "place"])
    (r_Times_best : RawM K mg "Times" "best" "Times.best" s_Times_best ["self", "chaser", "thief"])
    (r_chaser_goes_u : RawD K mg "_chaser_goes" s_chaser_goes_u ["times", "chaser", "thief"])
    (r_Times_step_u : RawM K mg "Times" "_step" "Times._step" s_Times_step_u ["self", "turns"])
    (r_Times_init : RawI K mg "Times" "Times.__init__" s_Times_init ["self", "net"])
    (r_chaser_goes : RawD K mg "chaser_goes" s_chaser_goes ["net", "chaser", "thief"])
    (r_Times_worst : RawM K mg "Times" "worst" "Times.worst" s_Times_worst ["self", "chaser", "thief"])
    (r_thief_goes_u : RawD K mg "_thief_goes" s_thief_goes_u ["times", "chaser", "thief"])
    (r_thief_goes : RawD K mg "thief_goes" s_thief_goes ["net", "chaser", "thief"])
    (r_law_behind_u : RawD K mg "_law_behind" s_law_behind_u ["times", "ways", "there", "t"])
    (r_law_chaser_u : RawD K mg "_law_chaser" s_law_chaser_u ["times", "ways", "c", "t"])
    (r_law_thief_u : RawD K mg "_law_thief" s_law_thief_u ["times", "ways", "c", "t"])
    (r_law_refused_u : RawD K mg "_law_refused" s_law_refused_u ["call", "net", "chaser", "thief"])
    (r_law : RawD K mg "law" s_law ["script"]) : LawD P w K mg 7 f_law := by
  have D_law_draws_u : ∀ base, DefD P w K mg base 1 2 "_law_draws" f_law_draws_u := fun base => ok_law_draws_u B r_law_draws_u 
  have D_law_net_u : ∀ base, DefD P w K mg base 1 3 "_law_net" f_law_net_u := fun base => ok_law_net_u B r_law_net_u 
  have D_law_times_u : ∀ base, DefD P w K mg base 1 2 "_law_times" f_law_times_u := fun base => ok_law_times_u B r_law_times_u 
  have D_is_whole : ∀ base, DefD P w K mg base 1 3 "is_whole" f_is_whole := fun base => ok_is_whole B r_is_whole 
  have D_are_pairs_u : ∀ base, DefD P w K mg base 2 2 "_are_pairs" f_are_pairs_u := fun base => ok_are_pairs_u B r_are_pairs_u (D_is_whole base)
  have D_Net_init : ∀ base, MakeD P w K mg base 3 2 "Net" f_Net_init := fun base => ok_Net_init B r_Net_init (D_is_whole base) (D_are_pairs_u base)
  have D_law_ways_u : ∀ base, DefD P w K mg base 1 2 "_law_ways" f_law_ways_u := fun base => ok_law_ways_u B r_law_ways_u 
  have D_check_place : ∀ base, DefD P w K mg base 2 2 "check_place" f_check_place := fun base => ok_check_place B r_check_place (D_is_whole base)
  have D_Net_ways : ∀ base, MethD P w K mg base 1 2 "Net" "ways" f_Net_ways := fun base => ok_Net_ways B r_Net_ways 
  have D_Times_best : ∀ base, MethD P w K mg base 2 3 "Times" "best" f_Times_best := fun base => ok_Times_best B r_Times_best (D_Net_ways base)
  have D_chaser_goes_u : ∀ base, DefD P w K mg base 3 3 "_chaser_goes" f_chaser_goes_u := fun base => ok_chaser_goes_u B r_chaser_goes_u (D_Net_ways base) (D_Times_best base)
  have D_Times_step_u : ∀ base, MethIO P w K mg base 2 1 "Times" "_step" f_Times_step_u := fun base => ok_Times_step_u B r_Times_step_u (D_Net_ways base)
  have D_Times_init : ∀ base, MakeD P w K mg base 3 1 "Times" f_Times_init := fun base => ok_Times_init B r_Times_init (D_Times_step_u base)
  have D_chaser_goes : ∀ base, DefD P w K mg base 5 3 "chaser_goes" f_chaser_goes := fun base => ok_chaser_goes B r_chaser_goes (D_check_place base) (D_chaser_goes_u base) (D_Times_init base)
  have D_Times_worst : ∀ base, MethD P w K mg base 2 3 "Times" "worst" f_Times_worst := fun base => ok_Times_worst B r_Times_worst (D_Net_ways base)
  have D_thief_goes_u : ∀ base, DefD P w K mg base 3 3 "_thief_goes" f_thief_goes_u := fun base => ok_thief_goes_u B r_thief_goes_u (D_Times_worst base)
  have D_thief_goes : ∀ base, DefD P w K mg base 5 3 "thief_goes" f_thief_goes := fun base => ok_thief_goes B r_thief_goes (D_check_place base) (D_Times_init base) (D_thief_goes_u base)
  have D_law_behind_u : ∀ base, DefD P w K mg base 1 4 "_law_behind" f_law_behind_u := fun base => ok_law_behind_u B r_law_behind_u 
  have D_law_chaser_u : ∀ base, DefD P w K mg base 2 4 "_law_chaser" f_law_chaser_u := fun base => ok_law_chaser_u B r_law_chaser_u (D_law_behind_u base)
  have D_law_thief_u : ∀ base, DefD P w K mg base 1 4 "_law_thief" f_law_thief_u := fun base => ok_law_thief_u B r_law_thief_u 
  have D_law_refused_u : ∀ base, DefD P w K mg base 6 4 "_law_refused" f_law_refused_u := fun base => ok_law_refused_u B r_law_refused_u (D_chaser_goes base) (D_thief_goes base)
  exact ok_law B r_law D_law_draws_u D_law_net_u D_law_times_u D_Net_init D_law_ways_u D_chaser_goes D_thief_goes D_law_chaser_u D_law_thief_u D_law_refused_u
theorem all_mk (true_ : ∀ ns : List Int, ns.length ≤ 63 → f_law [.fz (ns.map .int)] = .ok (.bl true)) {P : Program} {w : World} {K : PySem.W.Frag} {h : Heap} {mg : Str → Option Value} {fa : Addr} (X : K.In h) (G : h.Ns mainGlobals mg) (hfa : mg "law" = some (.ref fa))
    (z_abs : PySem.W.nsIn K mainGlobals "abs" = some none)
    (z_all : PySem.W.nsIn K mainGlobals "all" = some none)
    (z_any : PySem.W.nsIn K mainGlobals "any" = some none)
    (z_bool : PySem.W.nsIn K mainGlobals "bool" = some none)
    (z_int : PySem.W.nsIn K mainGlobals "int" = some none)
    (z_isinstance : PySem.W.nsIn K mainGlobals "isinstance" = some none)
    (z_len : PySem.W.nsIn K mainGlobals "len" = some none)
    (z_list : PySem.W.nsIn K mainGlobals "list" = some none)
    (z_max : PySem.W.nsIn K mainGlobals "max" = some none)
    (z_min : PySem.W.nsIn K mainGlobals "min" = some none)
    (z_range : PySem.W.nsIn K mainGlobals "range" = some none)
    (z_set : PySem.W.nsIn K mainGlobals "set" = some none)
    (z_sorted : PySem.W.nsIn K mainGlobals "sorted" = some none)
    (z_tuple : PySem.W.nsIn K mainGlobals "tuple" = some none)
    {t_MOST_PLACES : Tok} (y_MOST_PLACES : PySem.W.nsIn K mainGlobals "MOST_PLACES" = some (some (.int 24 t_MOST_PLACES)))
    {C_BadNet : Addr} (e1_BadNet : PySem.W.nsIn K mainGlobals "BadNet" = some (some (.ref C_BadNet))) (e2_BadNet : PySem.W.excIn K C_BadNet [.type "ValueError", .type "Exception", .type "BaseException", .type "object"] "ValueError.__new__" = true) (e3_BadNet : PySem.W.keepIn K (.ref C_BadNet) = true) (e4_BadNet : PySem.W.subIn K (.ref C_BadNet) (.type "BaseException") = some true) (e5_BadNet : PySem.W.typeIn K (.ref C_BadNet) = some (.type "type")) (e6_BadNet : PySem.W.isClsIn K C_BadNet = true)
    {C_BadPlace : Addr} (e1_BadPlace : PySem.W.nsIn K mainGlobals "BadPlace" = some (some (.ref C_BadPlace))) (e2_BadPlace : PySem.W.excIn K C_BadPlace [.type "ValueError", .type "Exception", .type "BaseException", .type "object"] "ValueError.__new__" = true) (e3_BadPlace : PySem.W.keepIn K (.ref C_BadPlace) = true) (e4_BadPlace : PySem.W.subIn K (.ref C_BadPlace) (.type "BaseException") = some true) (e5_BadPlace : PySem.W.typeIn K (.ref C_BadPlace) = some (.type "type")) (e6_BadPlace : PySem.W.isClsIn K C_BadPlace = true)
    {A_Net : Addr} (k1_Net : PySem.W.nsIn K mainGlobals "Net" = some (some (.ref A_Net))) (k2_Net : PySem.W.plainGet K A_Net Str.empty = true) (k3_Net : PySem.W.hasDictIn K A_Net = true) (k4_Net : PySem.W.plainOver K A_Net = true) (k5_Net : PySem.W.findIn K (.ref A_Net) "__setattr__" = some (some (.builtin "object.__setattr__"))) (k6_Net : PySem.W.makesIn K A_Net = true) (k7_Net : PySem.W.keepIn K (.ref A_Net) = true)
    {A_Times : Addr} (k1_Times : PySem.W.nsIn K mainGlobals "Times" = some (some (.ref A_Times))) (k2_Times : PySem.W.plainGet K A_Times Str.empty = true) (k3_Times : PySem.W.hasDictIn K A_Times = true) (k4_Times : PySem.W.plainOver K A_Times = true) (k5_Times : PySem.W.findIn K (.ref A_Times) "__setattr__" = some (some (.builtin "object.__setattr__"))) (k6_Times : PySem.W.makesIn K A_Times = true) (k7_Times : PySem.W.keepIn K (.ref A_Times) = true)
    (nf_Net__near : PySem.W.findIn K (.ref A_Net) "_near" = some none)
    (nf_Net_pairs : PySem.W.findIn K (.ref A_Net) "pairs" = some none)
    (nf_Net_size : PySem.W.findIn K (.ref A_Net) "size" = some none)
    (nf_Times_before : PySem.W.findIn K (.ref A_Times) "before" = some none)
    (nf_Times_behind : PySem.W.findIn K (.ref A_Times) "behind" = some none)
    (nf_Times_net : PySem.W.findIn K (.ref A_Times) "net" = some none)
    (x_BadPlace_BadPlace : PySem.W.subIn K (.ref C_BadPlace) (.ref C_BadPlace) = some true)
    {a_law_draws_u : Addr} {oc_law_draws_u kV_law_draws_u dc_law_draws_u pm_law_draws_u cd_law_draws_u ct_law_draws_u : Value} {od_law_draws_u an_law_draws_u : Option Addr} {sl_law_draws_u : Array (Option Value)}
    {a_law_net_u : Addr} {oc_law_net_u kV_law_net_u dc_law_net_u pm_law_net_u cd_law_net_u ct_law_net_u : Value} {od_law_net_u an_law_net_u : Option Addr} {sl_law_net_u : Array (Option Value)}
    {a_law_times_u : Addr} {oc_law_times_u kV_law_times_u dc_law_times_u pm_law_times_u cd_law_times_u ct_law_times_u : Value} {od_law_times_u an_law_times_u : Option Addr} {sl_law_times_u : Array (Option Value)}
    {a_is_whole : Addr} {oc_is_whole kV_is_whole dc_is_whole pm_is_whole cd_is_whole ct_is_whole : Value} {od_is_whole an_is_whole : Option Addr} {sl_is_whole : Array (Option Value)}
    {a_are_pairs_u : Addr} {oc_are_pairs_u kV_are_pairs_u dc_are_pairs_u pm_are_pairs_u cd_are_pairs_u ct_are_pairs_u : Value} {od_are_pairs_u an_are_pairs_u : Option Addr} {sl_are_pairs_u : Array (Option Value)}
    {a_Net_init : Addr} {oc_Net_init kV_Net_init dc_Net_init pm_Net_init cd_Net_init ct_Net_init : Value} {od_Net_init an_Net_init : Option Addr} {sl_Net_init : Array (Option Value)}
    {a_law_ways_u : Addr} {oc_law_ways_u kV_law_ways_u dc_law_ways_u pm_law_ways_u cd_law_ways_u ct_law_ways_u : Value} {od_law_ways_u an_law_ways_u : Option Addr} {sl_law_ways_u : Array (Option Value)}
    {a_check_place : Addr} {oc_check_place kV_check_place dc_check_place pm_check_place cd_check_place ct_check_place : Value} {od_check_place an_check_place : Option Addr} {sl_check_place : Array (Option Value)}
    {a_Net_ways : Addr} {oc_Net_ways kV_Net_ways dc_Net_ways pm_Net_ways cd_Net_ways ct_Net_ways : Value} {od_Net_ways an_Net_ways : Option Addr} {sl_Net_ways : Array (Option Value)}
    {a_Times_best : Addr} {oc_Times_best kV_Times_best dc_Times_best pm_Times_best cd_Times_best ct_Times_best : Value} {od_Times_best an_Times_best : Option Addr} {sl_Times_best : Array (Option Value)}
    {a_chaser_goes_u : Addr} {oc_chaser_goes_u kV_chaser_goes_u dc_chaser_goes_u pm_chaser_goes_u cd_chaser_goes_u ct_chaser_goes_u : Value} {od_chaser_goes_u an_chaser_goes_u : Option Addr} {sl_chaser_goes_u : Array (Option Value)}
    {a_Times_step_u : Addr} {oc_Times_step_u kV_Times_step_u dc_Times_step_u pm_Times_step_u cd_Times_step_u ct_Times_step_u : Value} {od_Times_step_u an_Times_step_u : Option Addr} {sl_Times_step_u : Array (Option Value)}
    {a_Times_init : Addr} {oc_Times_init kV_Times_init dc_Times_init pm_Times_init cd_Times_init ct_Times_init : Value} {od_Times_init an_Times_init : Option Addr} {sl_Times_init : Array (Option Value)}
    {a_chaser_goes : Addr} {oc_chaser_goes kV_chaser_goes dc_chaser_goes pm_chaser_goes cd_chaser_goes ct_chaser_goes : Value} {od_chaser_goes an_chaser_goes : Option Addr} {sl_chaser_goes : Array (Option Value)}
    {a_Times_worst : Addr} {oc_Times_worst kV_Times_worst dc_Times_worst pm_Times_worst cd_Times_worst ct_Times_worst : Value} {od_Times_worst an_Times_worst : Option Addr} {sl_Times_worst : Array (Option Value)}
    {a_thief_goes_u : Addr} {oc_thief_goes_u kV_thief_goes_u dc_thief_goes_u pm_thief_goes_u cd_thief_goes_u ct_thief_goes_u : Value} {od_thief_goes_u an_thief_goes_u : Option Addr} {sl_thief_goes_u : Array (Option Value)}
    {a_thief_goes : Addr} {oc_thief_goes kV_thief_goes dc_thief_goes pm_thief_goes cd_thief_goes ct_thief_goes : Value} {od_thief_goes an_thief_goes : Option Addr} {sl_thief_goes : Array (Option Value)}
    {a_law_behind_u : Addr} {oc_law_behind_u kV_law_behind_u dc_law_behind_u pm_law_behind_u cd_law_behind_u ct_law_behind_u : Value} {od_law_behind_u an_law_behind_u : Option Addr} {sl_law_behind_u : Array (Option Value)}
    {a_law_chaser_u : Addr} {oc_law_chaser_u kV_law_chaser_u dc_law_chaser_u pm_law_chaser_u cd_law_chaser_u ct_law_chaser_u : Value} {od_law_chaser_u an_law_chaser_u : Option Addr} {sl_law_chaser_u : Array (Option Value)}
    {a_law_thief_u : Addr} {oc_law_thief_u kV_law_thief_u dc_law_thief_u pm_law_thief_u cd_law_thief_u ct_law_thief_u : Value} {od_law_thief_u an_law_thief_u : Option Addr} {sl_law_thief_u : Array (Option Value)}
    {a_law_refused_u : Addr} {oc_law_refused_u kV_law_refused_u dc_law_refused_u pm_law_refused_u cd_law_refused_u ct_law_refused_u : Value} {od_law_refused_u an_law_refused_u : Option Addr} {sl_law_refused_u : Array (Option Value)}
    {a_law : Addr} {oc_law kV_law dc_law pm_law cd_law ct_law : Value} {od_law an_law : Option Addr} {sl_law : Array (Option Value)}
    (h1_law_draws_u : PySem.W.nsIn K mainGlobals "_law_draws" = some (some (.ref a_law_draws_u))) (h2_law_draws_u : K.lookup a_law_draws_u = some ⟨oc_law_draws_u, od_law_draws_u, .func (PySem.W.fnOf "_law_draws" "_law_draws" (defArgs s_law_draws_u) (defBody s_law_draws_u) (defScope s_law_draws_u) .none kV_law_draws_u dc_law_draws_u pm_law_draws_u an_law_draws_u cd_law_draws_u ct_law_draws_u), sl_law_draws_u⟩) (h3_law_draws_u : PySem.W.codeIn K cd_law_draws_u "_law_draws" = true) (h4_law_draws_u : PySem.W.keepIn K (.ref a_law_draws_u) = true)
    (h1_law_net_u : PySem.W.nsIn K mainGlobals "_law_net" = some (some (.ref a_law_net_u))) (h2_law_net_u : K.lookup a_law_net_u = some ⟨oc_law_net_u, od_law_net_u, .func (PySem.W.fnOf "_law_net" "_law_net" (defArgs s_law_net_u) (defBody s_law_net_u) (defScope s_law_net_u) .none kV_law_net_u dc_law_net_u pm_law_net_u an_law_net_u cd_law_net_u ct_law_net_u), sl_law_net_u⟩) (h3_law_net_u : PySem.W.codeIn K cd_law_net_u "_law_net" = true) (h4_law_net_u : PySem.W.keepIn K (.ref a_law_net_u) = true)
    (h1_law_times_u : PySem.W.nsIn K mainGlobals "_law_times" = some (some (.ref a_law_times_u))) (h2_law_times_u : K.lookup a_law_times_u = some ⟨oc_law_times_u, od_law_times_u, .func (PySem.W.fnOf "_law_times" "_law_times" (defArgs s_law_times_u) (defBody s_law_times_u) (defScope s_law_times_u) .none kV_law_times_u dc_law_times_u pm_law_times_u an_law_times_u cd_law_times_u ct_law_times_u), sl_law_times_u⟩) (h3_law_times_u : PySem.W.codeIn K cd_law_times_u "_law_times" = true) (h4_law_times_u : PySem.W.keepIn K (.ref a_law_times_u) = true)
    (h1_is_whole : PySem.W.nsIn K mainGlobals "is_whole" = some (some (.ref a_is_whole))) (h2_is_whole : K.lookup a_is_whole = some ⟨oc_is_whole, od_is_whole, .func (PySem.W.fnOf "is_whole" "is_whole" (defArgs s_is_whole) (defBody s_is_whole) (defScope s_is_whole) .none kV_is_whole dc_is_whole pm_is_whole an_is_whole cd_is_whole ct_is_whole), sl_is_whole⟩) (h3_is_whole : PySem.W.codeIn K cd_is_whole "is_whole" = true) (h4_is_whole : PySem.W.keepIn K (.ref a_is_whole) = true)
    (h1_are_pairs_u : PySem.W.nsIn K mainGlobals "_are_pairs" = some (some (.ref a_are_pairs_u))) (h2_are_pairs_u : K.lookup a_are_pairs_u = some ⟨oc_are_pairs_u, od_are_pairs_u, .func (PySem.W.fnOf "_are_pairs" "_are_pairs" (defArgs s_are_pairs_u) (defBody s_are_pairs_u) (defScope s_are_pairs_u) .none kV_are_pairs_u dc_are_pairs_u pm_are_pairs_u an_are_pairs_u cd_are_pairs_u ct_are_pairs_u), sl_are_pairs_u⟩) (h3_are_pairs_u : PySem.W.codeIn K cd_are_pairs_u "_are_pairs" = true) (h4_are_pairs_u : PySem.W.keepIn K (.ref a_are_pairs_u) = true)
    (h1_Net_init : PySem.W.findIn K (.ref A_Net) "__init__" = some (some (.ref a_Net_init))) (h5_Net_init : PySem.W.isFn K (.ref a_Net_init) = true) (h2_Net_init : K.lookup a_Net_init = some ⟨oc_Net_init, od_Net_init, .func (PySem.W.fnOf "__init__" "Net.__init__" (defArgs s_Net_init) (defBody s_Net_init) (defScope s_Net_init) .none kV_Net_init dc_Net_init pm_Net_init an_Net_init cd_Net_init ct_Net_init), sl_Net_init⟩) (h3_Net_init : PySem.W.codeIn K cd_Net_init "Net.__init__" = true) (h4_Net_init : PySem.W.keepIn K (.ref a_Net_init) = true)
    (h1_law_ways_u : PySem.W.nsIn K mainGlobals "_law_ways" = some (some (.ref a_law_ways_u))) (h2_law_ways_u : K.lookup a_law_ways_u = some ⟨oc_law_ways_u, od_law_ways_u, .func (PySem.W.fnOf "_law_ways" "_law_ways" (defArgs s_law_ways_u) (defBody s_law_ways_u) (defScope s_law_ways_u) .none kV_law_ways_u dc_law_ways_u pm_law_ways_u an_law_ways_u cd_law_ways_u ct_law_ways_u), sl_law_ways_u⟩) (h3_law_ways_u : PySem.W.codeIn K cd_law_ways_u "_law_ways" = true) (h4_law_ways_u : PySem.W.keepIn K (.ref a_law_ways_u) = true)
    (h1_check_place : PySem.W.nsIn K mainGlobals "check_place" = some (some (.ref a_check_place))) (h2_check_place : K.lookup a_check_place = some ⟨oc_check_place, od_check_place, .func (PySem.W.fnOf "check_place" "check_place" (defArgs s_check_place) (defBody s_check_place) (defScope s_check_place) .none kV_check_place dc_check_place pm_check_place an_check_place cd_check_place ct_check_place), sl_check_place⟩) (h3_check_place : PySem.W.codeIn K cd_check_place "check_place" = true) (h4_check_place : PySem.W.keepIn K (.ref a_check_place) = true)
    (h1_Net_ways : PySem.W.findIn K (.ref A_Net) "ways" = some (some (.ref a_Net_ways))) (h5_Net_ways : PySem.W.isFn K (.ref a_Net_ways) = true) (h2_Net_ways : K.lookup a_Net_ways = some ⟨oc_Net_ways, od_Net_ways, .func (PySem.W.fnOf "ways" "Net.ways" (defArgs s_Net_ways) (defBody s_Net_ways) (defScope s_Net_ways) .none kV_Net_ways dc_Net_ways pm_Net_ways an_Net_ways cd_Net_ways ct_Net_ways), sl_Net_ways⟩) (h3_Net_ways : PySem.W.codeIn K cd_Net_ways "Net.ways" = true) (h4_Net_ways : PySem.W.keepIn K (.ref a_Net_ways) = true)
    (h1_Times_best : PySem.W.findIn K (.ref A_Times) "best" = some (some (.ref a_Times_best))) (h5_Times_best : PySem.W.isFn K (.ref a_Times_best) = true) (h2_Times_best : K.lookup a_Times_best = some ⟨oc_Times_best, od_Times_best, .func (PySem.W.fnOf "best" "Times.best" (defArgs s_Times_best) (defBody s_Times_best) (defScope s_Times_best) .none kV_Times_best dc_Times_best pm_Times_best an_Times_best cd_Times_best ct_Times_best), sl_Times_best⟩) (h3_Times_best : PySem.W.codeIn K cd_Times_best "Times.best" = true) (h4_Times_best : PySem.W.keepIn K (.ref a_Times_best) = true)
    (h1_chaser_goes_u : PySem.W.nsIn K mainGlobals "_chaser_goes" = some (some (.ref a_chaser_goes_u))) (h2_chaser_goes_u : K.lookup a_chaser_goes_u = some ⟨oc_chaser_goes_u, od_chaser_goes_u, .func (PySem.W.fnOf "_chaser_goes" "_chaser_goes" (defArgs s_chaser_goes_u) (defBody s_chaser_goes_u) (defScope s_chaser_goes_u) .none kV_chaser_goes_u dc_chaser_goes_u pm_chaser_goes_u an_chaser_goes_u cd_chaser_goes_u ct_chaser_goes_u), sl_chaser_goes_u⟩) (h3_chaser_goes_u : PySem.W.codeIn K cd_chaser_goes_u "_chaser_goes" = true) (h4_chaser_goes_u : PySem.W.keepIn K (.ref a_chaser_goes_u) = true)
    (h1_Times_step_u : PySem.W.findIn K (.ref A_Times) "_step" = some (some (.ref a_Times_step_u))) (h5_Times_step_u : PySem.W.isFn K (.ref a_Times_step_u) = true) (h2_Times_step_u : K.lookup a_Times_step_u = some ⟨oc_Times_step_u, od_Times_step_u, .func (PySem.W.fnOf "_step" "Times._step" (defArgs s_Times_step_u) (defBody s_Times_step_u) (defScope s_Times_step_u) .none kV_Times_step_u dc_Times_step_u pm_Times_step_u an_Times_step_u cd_Times_step_u ct_Times_step_u), sl_Times_step_u⟩) (h3_Times_step_u : PySem.W.codeIn K cd_Times_step_u "Times._step" = true) (h4_Times_step_u : PySem.W.keepIn K (.ref a_Times_step_u) = true)
    (h1_Times_init : PySem.W.findIn K (.ref A_Times) "__init__" = some (some (.ref a_Times_init))) (h5_Times_init : PySem.W.isFn K (.ref a_Times_init) = true) (h2_Times_init : K.lookup a_Times_init = some ⟨oc_Times_init, od_Times_init, .func (PySem.W.fnOf "__init__" "Times.__init__" (defArgs s_Times_init) (defBody s_Times_init) (defScope s_Times_init) .none kV_Times_init dc_Times_init pm_Times_init an_Times_init cd_Times_init ct_Times_init), sl_Times_init⟩) (h3_Times_init : PySem.W.codeIn K cd_Times_init "Times.__init__" = true) (h4_Times_init : PySem.W.keepIn K (.ref a_Times_init) = true)
    (h1_chaser_goes : PySem.W.nsIn K mainGlobals "chaser_goes" = some (some (.ref a_chaser_goes))) (h2_chaser_goes : K.lookup a_chaser_goes = some ⟨oc_chaser_goes, od_chaser_goes, .func (PySem.W.fnOf "chaser_goes" "chaser_goes" (defArgs s_chaser_goes) (defBody s_chaser_goes) (defScope s_chaser_goes) .none kV_chaser_goes dc_chaser_goes pm_chaser_goes an_chaser_goes cd_chaser_goes ct_chaser_goes), sl_chaser_goes⟩) (h3_chaser_goes : PySem.W.codeIn K cd_chaser_goes "chaser_goes" = true) (h4_chaser_goes : PySem.W.keepIn K (.ref a_chaser_goes) = true)
    (h1_Times_worst : PySem.W.findIn K (.ref A_Times) "worst" = some (some (.ref a_Times_worst))) (h5_Times_worst : PySem.W.isFn K (.ref a_Times_worst) = true) (h2_Times_worst : K.lookup a_Times_worst = some ⟨oc_Times_worst, od_Times_worst, .func (PySem.W.fnOf "worst" "Times.worst" (defArgs s_Times_worst) (defBody s_Times_worst) (defScope s_Times_worst) .none kV_Times_worst dc_Times_worst pm_Times_worst an_Times_worst cd_Times_worst ct_Times_worst), sl_Times_worst⟩) (h3_Times_worst : PySem.W.codeIn K cd_Times_worst "Times.worst" = true) (h4_Times_worst : PySem.W.keepIn K (.ref a_Times_worst) = true)
    (h1_thief_goes_u : PySem.W.nsIn K mainGlobals "_thief_goes" = some (some (.ref a_thief_goes_u))) (h2_thief_goes_u : K.lookup a_thief_goes_u = some ⟨oc_thief_goes_u, od_thief_goes_u, .func (PySem.W.fnOf "_thief_goes" "_thief_goes" (defArgs s_thief_goes_u) (defBody s_thief_goes_u) (defScope s_thief_goes_u) .none kV_thief_goes_u dc_thief_goes_u pm_thief_goes_u an_thief_goes_u cd_thief_goes_u ct_thief_goes_u), sl_thief_goes_u⟩) (h3_thief_goes_u : PySem.W.codeIn K cd_thief_goes_u "_thief_goes" = true) (h4_thief_goes_u : PySem.W.keepIn K (.ref a_thief_goes_u) = true)
    (h1_thief_goes : PySem.W.nsIn K mainGlobals "thief_goes" = some (some (.ref a_thief_goes))) (h2_thief_goes : K.lookup a_thief_goes = some ⟨oc_thief_goes, od_thief_goes, .func (PySem.W.fnOf "thief_goes" "thief_goes" (defArgs s_thief_goes) (defBody s_thief_goes) (defScope s_thief_goes) .none kV_thief_goes dc_thief_goes pm_thief_goes an_thief_goes cd_thief_goes ct_thief_goes), sl_thief_goes⟩) (h3_thief_goes : PySem.W.codeIn K cd_thief_goes "thief_goes" = true) (h4_thief_goes : PySem.W.keepIn K (.ref a_thief_goes) = true)
    (h1_law_behind_u : PySem.W.nsIn K mainGlobals "_law_behind" = some (some (.ref a_law_behind_u))) (h2_law_behind_u : K.lookup a_law_behind_u = some ⟨oc_law_behind_u, od_law_behind_u, .func (PySem.W.fnOf "_law_behind" "_law_behind" (defArgs s_law_behind_u) (defBody s_law_behind_u) (defScope s_law_behind_u) .none kV_law_behind_u dc_law_behind_u pm_law_behind_u an_law_behind_u cd_law_behind_u ct_law_behind_u), sl_law_behind_u⟩) (h3_law_behind_u : PySem.W.codeIn K cd_law_behind_u "_law_behind" = true) (h4_law_behind_u : PySem.W.keepIn K (.ref a_law_behind_u) = true)
    (h1_law_chaser_u : PySem.W.nsIn K mainGlobals "_law_chaser" = some (some (.ref a_law_chaser_u))) (h2_law_chaser_u : K.lookup a_law_chaser_u = some ⟨oc_law_chaser_u, od_law_chaser_u, .func (PySem.W.fnOf "_law_chaser" "_law_chaser" (defArgs s_law_chaser_u) (defBody s_law_chaser_u) (defScope s_law_chaser_u) .none kV_law_chaser_u dc_law_chaser_u pm_law_chaser_u an_law_chaser_u cd_law_chaser_u ct_law_chaser_u), sl_law_chaser_u⟩) (h3_law_chaser_u : PySem.W.codeIn K cd_law_chaser_u "_law_chaser" = true) (h4_law_chaser_u : PySem.W.keepIn K (.ref a_law_chaser_u) = true)
    (h1_law_thief_u : PySem.W.nsIn K mainGlobals "_law_thief" = some (some (.ref a_law_thief_u))) (h2_law_thief_u : K.lookup a_law_thief_u = some ⟨oc_law_thief_u, od_law_thief_u, .func (PySem.W.fnOf "_law_thief" "_law_thief" (defArgs s_law_thief_u) (defBody s_law_thief_u) (defScope s_law_thief_u) .none kV_law_thief_u dc_law_thief_u pm_law_thief_u an_law_thief_u cd_law_thief_u ct_law_thief_u), sl_law_thief_u⟩) (h3_law_thief_u : PySem.W.codeIn K cd_law_thief_u "_law_thief" = true) (h4_law_thief_u : PySem.W.keepIn K (.ref a_law_thief_u) = true)
    (h1_law_refused_u : PySem.W.nsIn K mainGlobals "_law_refused" = some (some (.ref a_law_refused_u))) (h2_law_refused_u : K.lookup a_law_refused_u = some ⟨oc_law_refused_u, od_law_refused_u, .func (PySem.W.fnOf "_law_refused" "_law_refused" (defArgs s_law_refused_u) (defBody s_law_refused_u) (defScope s_law_refused_u) .none kV_law_refused_u dc_law_refused_u pm_law_refused_u an_law_refused_u cd_law_refused_u ct_law_refused_u), sl_law_refused_u⟩) (h3_law_refused_u : PySem.W.codeIn K cd_law_refused_u "_law_refused" = true) (h4_law_refused_u : PySem.W.keepIn K (.ref a_law_refused_u) = true)
    (h1_law : PySem.W.nsIn K mainGlobals "law" = some (some (.ref a_law))) (h2_law : K.lookup a_law = some ⟨oc_law, od_law, .func (PySem.W.fnOf "law" "law" (defArgs s_law) (defBody s_law) (defScope s_law) .none kV_law dc_law pm_law an_law cd_law ct_law), sl_law⟩) (h3_law : PySem.W.codeIn K cd_law "law" = true) (h4_law : PySem.W.keepIn K (.ref a_law) = true) :
    ∃ fd : FuncData, (∀ (s : Shared) (u : Value), BindsTo s fd ⟨[u], []⟩ [("script", u)]) ∧ ∀ base : Heap, K.In base → base.Ns mainGlobals mg → FnOk P w K mg base (L2.CX P w) 7 fa fd ["script"] (spL K) := by
  have B : Facts K w mg := facts_mk X G z_abs z_all z_any z_bool z_int z_isinstance z_len z_list z_max z_min z_range z_set z_sorted z_tuple y_MOST_PLACES e1_BadNet e2_BadNet e3_BadNet e4_BadNet e5_BadNet e6_BadNet e1_BadPlace e2_BadPlace e3_BadPlace e4_BadPlace e5_BadPlace e6_BadPlace k1_Net k2_Net k3_Net k4_Net k5_Net k6_Net k7_Net k1_Times k2_Times k3_Times k4_Times k5_Times k6_Times k7_Times nf_Net__near nf_Net_pairs nf_Net_size nf_Times_before nf_Times_behind nf_Times_net x_BadPlace_BadPlace
  have r_law_draws_u : RawD K mg "_law_draws" s_law_draws_u ["script", "many"] := rawD_mk X G h1_law_draws_u h2_law_draws_u h3_law_draws_u h4_law_draws_u fun _ _ _ _ _ _ us hl => match us, hl with | [_, _], _ => rfl
  have r_law_net_u : RawD K mg "_law_net" s_law_net_u ["draws", "at", "most"] := rawD_mk X G h1_law_net_u h2_law_net_u h3_law_net_u h4_law_net_u fun _ _ _ _ _ _ us hl => match us, hl with | [_, _, _], _ => rfl
  have r_law_times_u : RawD K mg "_law_times" s_law_times_u ["size", "ways"] := rawD_mk X G h1_law_times_u h2_law_times_u h3_law_times_u h4_law_times_u fun _ _ _ _ _ _ us hl => match us, hl with | [_, _], _ => rfl
  have r_is_whole : RawD K mg "is_whole" s_is_whole ["value", "least", "most"] := rawD_mk X G h1_is_whole h2_is_whole h3_is_whole h4_is_whole fun _ _ _ _ _ _ us hl => match us, hl with | [_, _, _], _ => rfl
  have r_are_pairs_u : RawD K mg "_are_pairs" s_are_pairs_u ["size", "value"] := rawD_mk X G h1_are_pairs_u h2_are_pairs_u h3_are_pairs_u h4_are_pairs_u fun _ _ _ _ _ _ us hl => match us, hl with | [_, _], _ => rfl
  have r_Net_init : RawI K mg "Net" "Net.__init__" s_Net_init ["self", "size", "pairs"] := rawI_mk (PySem.W.mg_of X G k1_Net) k6_Net k7_Net h1_Net_init h5_Net_init h2_Net_init h3_Net_init h4_Net_init fun _ _ _ _ _ _ us hl => match us, hl with | [_, _, _], _ => rfl
  have r_law_ways_u : RawD K mg "_law_ways" s_law_ways_u ["size", "pairs"] := rawD_mk X G h1_law_ways_u h2_law_ways_u h3_law_ways_u h4_law_ways_u fun _ _ _ _ _ _ us hl => match us, hl with | [_, _], _ => rfl
  have r_check_place : RawD K mg "check_place" s_check_place ["net", "value"] := rawD_mk X G h1_check_place h2_check_place h3_check_place h4_check_place fun _ _ _ _ _ _ us hl => match us, hl with | [_, _], _ => rfl
  have r_Net_ways : RawM K mg "Net" "ways" "Net.ways" s_Net_ways ["self", "place"] := rawM_mk (PySem.W.mg_of X G k1_Net) ⟨k2_Net, k3_Net, k4_Net, k5_Net⟩ h1_Net_ways h5_Net_ways h2_Net_ways h3_Net_ways h4_Net_ways fun _ _ _ _ _ _ us hl => match us, hl with | [_, _], _ => rfl
  have r_Times_best : RawM K mg "Times" "best" "Times.best" s_Times_best ["self", "chaser", "thief"] := rawM_mk (PySem.W.mg_of X G k1_Times) ⟨k2_Times, k3_Times, k4_Times, k5_Times⟩ h1_Times_best h5_Times_best h2_Times_best h3_Times_best h4_Times_best fun _ _ _ _ _ _ us hl => match us, hl with | [_, _, _], _ => rfl
  have r_chaser_goes_u : RawD K mg "_chaser_goes" s_chaser_goes_u ["times", "chaser", "thief"] := rawD_mk X G h1_chaser_goes_u h2_chaser_goes_u h3_chaser_goes_u h4_chaser_goes_u fun _ _ _ _ _ _ us hl => match us, hl with | [_, _, _], _ => rfl
  have r_Times_step_u : RawM K mg "Times" "_step" "Times._step" s_Times_step_u ["self", "turns"] := rawM_mk (PySem.W.mg_of X G k1_Times) ⟨k2_Times, k3_Times, k4_Times, k5_Times⟩ h1_Times_step_u h5_Times_step_u h2_Times_step_u h3_Times_step_u h4_Times_step_u fun _ _ _ _ _ _ us hl => match us, hl with | [_, _], _ => rfl
  have r_Times_init : RawI K mg "Times" "Times.__init__" s_Times_init ["self", "net"] := rawI_mk (PySem.W.mg_of X G k1_Times) k6_Times k7_Times h1_Times_init h5_Times_init h2_Times_init h3_Times_init h4_Times_init fun _ _ _ _ _ _ us hl => match us, hl with | [_, _], _ => rfl
  have r_chaser_goes : RawD K mg "chaser_goes" s_chaser_goes ["net", "chaser", "thief"] := rawD_mk X G h1_chaser_goes h2_chaser_goes h3_chaser_goes h4_chaser_goes fun _ _ _ _ _ _ us hl => match us, hl with | [_, _, _], _ => rfl
  have r_Times_worst : RawM K mg "Times" "worst" "Times.worst" s_Times_worst ["self", "chaser", "thief"] := rawM_mk (PySem.W.mg_of X G k1_Times) ⟨k2_Times, k3_Times, k4_Times, k5_Times⟩ h1_Times_worst h5_Times_worst h2_Times_worst h3_Times_worst h4_Times_worst fun _ _ _ _ _ _ us hl => match us, hl with | [_, _, _], _ => rfl
  have r_thief_goes_u : RawD K mg "_thief_goes" s_thief_goes_u ["times", "chaser", "thief"] := rawD_mk X G h1_thief_goes_u h2_thief_goes_u h3_thief_goes_u h4_thief_goes_u fun _ _ _ _ _ _ us hl => match us, hl with | [_, _, _], _ => rfl
  have r_thief_goes : RawD K mg "thief_goes" s_thief_goes ["net", "chaser", "thief"] := rawD_mk X G h1_thief_goes h2_thief_goes h3_thief_goes h4_thief_goes fun _ _ _ _ _ _ us hl => match us, hl with | [_, _, _], _ => rfl
  have r_law_behind_u : RawD K mg "_law_behind" s_law_behind_u ["times", "ways", "there", "t"] := rawD_mk X G h1_law_behind_u h2_law_behind_u h3_law_behind_u h4_law_behind_u fun _ _ _ _ _ _ us hl => match us, hl with | [_, _, _, _], _ => rfl
  have r_law_chaser_u : RawD K mg "_law_chaser" s_law_chaser_u ["times", "ways", "c", "t"] := rawD_mk X G h1_law_chaser_u h2_law_chaser_u h3_law_chaser_u h4_law_chaser_u fun _ _ _ _ _ _ us hl => match us, hl with | [_, _, _, _], _ => rfl
  have r_law_thief_u : RawD K mg "_law_thief" s_law_thief_u ["times", "ways", "c", "t"] := rawD_mk X G h1_law_thief_u h2_law_thief_u h3_law_thief_u h4_law_thief_u fun _ _ _ _ _ _ us hl => match us, hl with | [_, _, _, _], _ => rfl
  have r_law_refused_u : RawD K mg "_law_refused" s_law_refused_u ["call", "net", "chaser", "thief"] := rawD_mk X G h1_law_refused_u h2_law_refused_u h3_law_refused_u h4_law_refused_u fun _ _ _ _ _ _ us hl => match us, hl with | [_, _, _, _], _ => rfl
  have r_law : RawD K mg "law" s_law ["script"] := rawD_mk X G h1_law h2_law h3_law h4_law fun _ _ _ _ _ _ us hl => match us, hl with | [_], _ => rfl
  exact law_end hfa (all_ok B r_law_draws_u r_law_net_u r_law_times_u r_is_whole r_are_pairs_u r_Net_init r_law_ways_u r_check_place r_Net_ways r_Times_best r_chaser_goes_u r_Times_step_u r_Times_init r_chaser_goes r_Times_worst r_thief_goes_u r_thief_goes r_law_behind_u r_law_chaser_u r_law_thief_u r_law_refused_u r_law) true_
end LW
set_option Elab.async false
set_option linter.all false
set_option maxRecDepth 100000
set_option maxHeartbeats 4000000
namespace LW
open PySem PySem.Spec PyProof.Rows L2 DL
open TL
abbrev T_Net : Type := Int × (List (Int × Int)) × (List (List Int))
def e_Net0 (x : T_Net) : D := .ins "Net" none ["size", "pairs", "_near"] [D.int x.1, (eT (e2 D.int D.int)) x.2.1, (eL (eL D.int)) x.2.2]
def e_Net (x : T_Net) : D := .fi "Net" ["size", "pairs", "_near"] [D.int x.1, (eT (e2 D.int D.int)) x.2.1, (eY (eY D.int)) x.2.2]
theorem fz_Net : Fz e_Net0 e_Net := fun x => fz_ins (fzA_cons ((fz_imm im_int) _) (fzA_cons ((fz_imm (im_T (im_2 im_int im_int))) _) (fzA_cons ((fz_L (fz_L (fz_imm im_int))) _) fzA_nil)))
theorem im_Net (x : T_Net) : imm (e_Net x) = true := im_fi (imA_cons (im_int _) (imA_cons ((im_T (im_2 im_int im_int)) _) (imA_cons ((im_Y (im_Y im_int)) _) imA_nil)))
theorem fl_Net_size (x : T_Net) : fldD "Net" "size" (e_Net x) = some (D.int x.1) := by simp (decide := true) [fldD, fldOf, e_Net]
theorem fl_Net_pairs (x : T_Net) : fldD "Net" "pairs" (e_Net x) = some ((eT (e2 D.int D.int)) x.2.1) := by simp (decide := true) [fldD, fldOf, e_Net]
theorem fl_Net__near (x : T_Net) : fldD "Net" "_near" (e_Net x) = some ((eY (eY D.int)) x.2.2) := by simp (decide := true) [fldD, fldOf, e_Net]
theorem in_Net_beside (x : T_Net) : insOf "Net" "beside" (e_Net x) = true := by simp (decide := true) [insOf, e_Net]
theorem in_Net_ways (x : T_Net) : insOf "Net" "ways" (e_Net x) = true := by simp (decide := true) [insOf, e_Net]
abbrev T_Times : Type := T_Net × (List ((Int × Int) × Int)) × (List ((Int × Int) × Int))
abbrev v_Times (x : T_Times) : List D := [e_Net x.1, (eMt (k2 kI kI) D.int) x.2.1, (eMt (k2 kI kI) D.int) x.2.2]
def e_Times (x : T_Times) : D := .ins "Times" none ["net", "before", "behind"] (v_Times x)
theorem fl_Times_net (x : T_Times) : fldD "Times" "net" (e_Times x) = some (e_Net x.1) := by simp (decide := true) [fldD, fldOf, e_Times]
theorem fl_Times_before (x : T_Times) : fldD "Times" "before" (e_Times x) = some ((eMt (k2 kI kI) D.int) x.2.1) := by simp (decide := true) [fldD, fldOf, e_Times]
theorem fl_Times_behind (x : T_Times) : fldD "Times" "behind" (e_Times x) = some ((eMt (k2 kI kI) D.int) x.2.2) := by simp (decide := true) [fldD, fldOf, e_Times]
theorem in_Times__step (x : T_Times) : insOf "Times" "_step" (e_Times x) = true := by simp (decide := true) [insOf, e_Times]
theorem in_Times_best (x : T_Times) : insOf "Times" "best" (e_Times x) = true := by simp (decide := true) [insOf, e_Times]
theorem in_Times_worst (x : T_Times) : insOf "Times" "worst" (e_Times x) = true := by simp (decide := true) [insOf, e_Times]
def t_law_draws_u (x_script : (List Int)) (x_many : Int) : R (List Int) := TF.run' ((tlet ([] : (List Int)) fun x_draws =>
  (tlet (7 : Int) fun x_seed =>
  ((tfor (cutL x_script none (some (63 : Int))) (x_draws, x_seed) (fun s2 y1 =>
  (tlet (Int.natAbs y1 : Int) fun x_number =>
  (tlet ((((s2.2 * (48271 : Int)) + x_number) + (11 : Int)) % (2147483647 : Int)) fun x_seed =>
  (if (decide ((1000000000000000000 : Int) ≤ x_number)) = true then (obind (rgO1 (60 : Int)) fun v3 =>
  ((tfor v3 (s2.1, x_number) (fun s5 y4 =>
  (if (decide ((0 : Int) < s5.2)) = true then (obind (appO s5.1 (s5.2 % (1009 : Int))) fun x_draws =>
  (tlet (s5.2 / (1009 : Int)) fun x_number =>
  .nx (x_draws, x_number))) else .nx (s5.1, s5.2))) : TF _ ((List Int) × Int) _).bind fun s5 =>
  .nx (s5.1, x_seed))) else (obind (appO s2.1 ((((x_seed * (16807 : Int)) + (5 : Int)) / (3 : Int)) % (65521 : Int))) fun x_draws =>
  .nx (x_draws, x_seed)))))) : TF _ ((List Int) × Int) _).bind fun s2 =>
  (obind (rgO1 x_many) fun v6 =>
  ((tfor v6 (s2.1, s2.2) (fun s8 y7 =>
  (if (decide ((List.length s8.1 : Int) < x_many)) = true then (tlet ((((s8.2 * (69621 : Int)) + y7) + (1 : Int)) % (2147483647 : Int)) fun x_seed =>
  (obind (appO s8.1 ((x_seed / (7 : Int)) % (65521 : Int))) fun x_draws =>
  .nx (x_draws, x_seed))) else .nx (s8.1, s8.2))) : TF _ ((List Int) × Int) _).bind fun s8 =>
  .rt (cutL s8.1 none (some x_many))))))) : TF Unit Empty (List Int))
theorem tp_law_draws_u (x_script : (List Int)) (x_many : Int) : RG (eL D.int) (f_law_draws_u [(eZ D.int) x_script, D.int x_many]) (t_law_draws_u x_script x_many) := by
  unfold f_law_draws_u t_law_draws_u g_law_draws_u
  exact rf_run' ((rs_setF (eL D.int) (p_top rfl (p_lst p_nil rfl)) fun x_draws =>
  (rs_setI D.int im_int p_c fun x_seed =>
  (rs_forF (fun s2 : ((List Int) × Int) => [.sh ((eZ D.int) (x_script)), .sh (D.int (x_many)), .ow ((eL D.int) (s2.1)), .ow (D.int (s2.2)), .un, .un, .un]) D.int rfl (i_it (w_L _) (p_top ((it_L im_int) _) (p_sl (o_slZ _ _ _) (p_var rfl) p_none (p_part p_c)))) (fun s2 y1 => rsp_ok rfl (rs_setI D.int im_int (p_call (o_abs _) (p_cons (p_var rfl) p_nil)) fun x_number =>
  (rs_setI D.int im_int (p_op (o_modR _ (by decide)) (p_call (o_int _) (p_cons (p_op (o_add _ _) (p_op (o_add _ _) (p_op (o_mulR _ (by decide)) (p_var rfl) p_c) (p_var rfl)) p_c) p_nil)) p_c) fun x_seed =>
  (rs_if (q_b (p_op (o_geI _ _) (p_var rfl) (p_op (pow_lit 10 18 (by decide)) p_c p_c))) (rs_last (rs_ob fun v3 hv3 =>
  (rs_forF (fun s5 : ((List Int) × Int) => [.sh ((eZ D.int) (x_script)), .sh (D.int (x_many)), .ow ((eL D.int) (s5.1)), .ow (D.int (x_seed)), .un, .un, .ow (D.int (s5.2))]) D.int rfl (i_rng (o_rg1 hv3) (p_cons p_c p_nil)) (fun s5 y4 => rsp_ok rfl (rs_if (q_b (p_op (o_gt _ _) (p_var rfl) p_c)) (rs_app D.int rfl (p_op (o_modR _ (by decide)) (p_call (o_int _) (p_cons (p_var rfl) p_nil)) p_c) (im_co (co_id (s5.2 % (1009 : Int))) (im_int _)) fun x_draws =>
  (rs_last (rs_setI D.int im_int (p_op (o_fdivR _ (by decide)) (p_var rfl) p_c) fun x_number =>
  (rs_nil rfl)))) (rs_nil rfl))) fun s5 =>
  (rs_nil rfl)))) (rs_last (rs_app D.int rfl (p_op (o_modR _ (by decide)) (p_op (o_fdivR _ (by decide)) (p_call (o_int _) (p_cons (p_op (o_add _ _) (p_op (o_mulR _ (by decide)) (p_var rfl) p_c) p_c) p_nil)) p_c) p_c) (im_co (co_id ((((x_seed * (16807 : Int)) + (5 : Int)) / (3 : Int)) % (65521 : Int))) (im_int _)) fun x_draws =>
  (rs_nil rfl))))))) fun s2 =>
  (rs_ob fun v6 hv6 =>
  (rs_forF (fun s8 : ((List Int) × Int) => [.un, .sh (D.int (x_many)), .ow ((eL D.int) (s8.1)), .ow (D.int (s8.2)), .un, .un, .un]) D.int rfl (i_rng (o_rg1 hv6) (p_cons (p_var rfl) p_nil)) (fun s8 y7 => rsp_ok rfl (rs_if (q_b (p_op (o_lt _ _) (p_call (o_lenL _) (p_cons (p_var rfl) p_nil)) (p_var rfl))) (rs_setI D.int im_int (p_op (o_modR _ (by decide)) (p_call (o_int _) (p_cons (p_op (o_add _ _) (p_op (o_add _ _) (p_op (o_mulR _ (by decide)) (p_var rfl) p_c) (p_var rfl)) p_c) p_nil)) p_c) fun x_seed =>
  (rs_last (rs_app D.int rfl (p_op (o_modR _ (by decide)) (p_op (o_fdivR _ (by decide)) (p_call (o_int _) (p_cons (p_var rfl) p_nil)) p_c) p_c) (im_co (co_id ((x_seed / (7 : Int)) % (65521 : Int))) (im_int _)) fun x_draws =>
  (rs_nil rfl)))) (rs_nil rfl))) fun s8 =>
  (rs_ret (p_top ((it_L im_int) _) (p_sl (o_slL _ _ _) (p_var rfl) p_none (p_part (p_var rfl)))))))))))
def t_law_net_u (x_draws : (List Int)) (x_at : Int) (x_most : Int) : R (Int × (List (Int × Int))) := TF.run' ((obind (L2.atI x_draws x_at) fun v1 =>
  (obind (modO v1 x_most) fun v2 =>
  (tlet ((1 : Int) + v2) fun x_size =>
  (obind (L2.atI x_draws (x_at + (1 : Int))) fun v3 =>
  (obind (L2.atI x_draws (x_at + (2 : Int))) fun v4 =>
  (tlet ((2 : Int) + (v3 % (4 : Int))) fun p5 =>
  (tlet (v4 % (4 : Int)) fun p6 =>
  (tlet ([] : (List (Int × Int))) fun p7 =>
  (obind (rgO1 x_size) fun v8 =>
  ((tfor v8 p7 (fun s10 y9 =>
  (obind (L2.atI x_draws ((x_at + (3 : Int)) + y9)) fun v11 =>
  (tlet v11 fun x_draw =>
  ((if ((decide (p6 < (2 : Int))) && (decide ((0 : Int) < y9))) = true then (obind (modO x_draw y9) fun v12 =>
  (obind (appO s10 (v12, y9)) fun x_pairs =>
  .nx x_pairs)) else .nx s10 : TF _ (List (Int × Int)) _).bind fun s13 =>
  ((if ((decide (p6 = (2 : Int))) && (decide ((0 : Int) < y9))) = true then (obind (appO s13 ((y9 - (1 : Int)), y9)) fun x_pairs =>
  .nx x_pairs) else .nx s13 : TF _ (List (Int × Int)) _).bind fun s14 =>
  (obind (rgO1 y9) fun v15 =>
  ((tfor v15 s14 (fun s17 y16 =>
  (obind (fdivO x_draw (y16 + (2 : Int))) fun v18 =>
  (obind (modO v18 (p5 + (if (decide (p6 = (2 : Int))) = true then (4 : Int) else (0 : Int)))) fun v19 =>
  (if ((decide (v19 = (0 : Int))) && (!decide (p6 = (1 : Int)))) = true then (obind (appO s17 (y16, y9)) fun x_pairs =>
  .nx x_pairs) else .nx s17)))) : TF _ (List (Int × Int)) _).bind fun s17 =>
  .nx s17))))))) : TF _ (List (Int × Int)) _).bind fun s10 =>
  ((if ((decide (p6 = (2 : Int))) && (decide ((2 : Int) < x_size))) = true then (obind (appO s10 ((0 : Int), (x_size - (1 : Int)))) fun x_pairs =>
  .nx x_pairs) else .nx s10 : TF _ (List (Int × Int)) _).bind fun s20 =>
  (obind (sortSet s20) fun v21 =>
  .rt (x_size, v21))))))))))))) : TF Unit Empty (Int × (List (Int × Int))))
theorem tp_law_net_u (x_draws : (List Int)) (x_at : Int) (x_most : Int) : RG (e2 D.int (eT (e2 D.int D.int))) (f_law_net_u [(eL D.int) x_draws, D.int x_at, D.int x_most]) (t_law_net_u x_draws x_at x_most) := by
  unfold f_law_net_u t_law_net_u g_law_net_u
  exact rf_run' ((rs_ob fun v1 hv1 =>
  (rs_ob fun v2 hv2 =>
  (rs_setI D.int im_int (p_op (o_add _ _) p_c (p_op (o_mod hv2) (p_call (o_int _) (p_cons (p_op (o_ixL hv1) (p_var rfl) (p_var rfl)) p_nil)) (p_var rfl))) fun x_size =>
  (rs_ob fun v3 hv3 =>
  (rs_ob fun v4 hv4 =>
  (rs_pars3 D.int D.int (eL (e2 D.int D.int)) (co_id ((2 : Int) + (v3 % (4 : Int)))) (co_id (v4 % (4 : Int))) rfl (p_cons (p_imm (im_int _) (p_op (o_add _ _) p_c (p_op (o_modR _ (by decide)) (p_call (o_int _) (p_cons (p_op (o_ixL hv3) (p_var rfl) (p_op (o_add _ _) (p_var rfl) p_c)) p_nil)) p_c))) (p_cons (p_imm (im_int _) (p_op (o_modR _ (by decide)) (p_call (o_int _) (p_cons (p_op (o_ixL hv4) (p_var rfl) (p_op (o_add _ _) (p_var rfl) p_c)) p_nil)) p_c)) (p_cons (p_top rfl (p_lst p_nil rfl)) p_nil))) fun p5 p6 p7 =>
  (rs_ob fun v8 hv8 =>
  (rs_forF (fun s10 : (List (Int × Int)) => [.sh ((eL D.int) (x_draws)), .sh (D.int (x_at)), .un, .ow (D.int (x_size)), .un, .ow (D.int (p5)), .ow (D.int (p6)), .ow ((eL (e2 D.int D.int)) (s10)), .un, .un]) D.int rfl (i_rng (o_rg1 hv8) (p_cons (p_var rfl) p_nil)) (fun s10 y9 => rsp_ok rfl (rs_ob fun v11 hv11 =>
  (rs_setI D.int im_int (p_call (o_int _) (p_cons (p_op (o_ixL hv11) (p_var rfl) (p_op (o_add _ _) (p_op (o_add _ _) (p_var rfl) p_c) (p_var rfl))) p_nil)) fun x_draw =>
  (rs_seqM (fun s13 : (List (Int × Int)) => [.sh ((eL D.int) (x_draws)), .sh (D.int (x_at)), .un, .ow (D.int (x_size)), .sh (D.int (y9)), .ow (D.int (p5)), .ow (D.int (p6)), .ow ((eL (e2 D.int D.int)) (s13)), .ow (D.int (x_draw)), .un]) (rs_if (q_and (q_b (p_op (o_lt _ _) (p_var rfl) p_c)) (q_b (p_op (o_gt _ _) (p_var rfl) p_c))) (rs_last (rs_ob fun v12 hv12 =>
  (rs_app (e2 D.int D.int) rfl (p_tup (p_cons (p_op (o_mod hv12) (p_var rfl) (p_var rfl)) (p_cons (p_var rfl) p_nil)) rfl) (im_co (co_id (v12, y9)) ((im_2 im_int im_int) _)) fun x_pairs =>
  (rs_nil rfl)))) (rs_nil rfl)) fun s13 =>
  (rs_seqM (fun s14 : (List (Int × Int)) => [.sh ((eL D.int) (x_draws)), .sh (D.int (x_at)), .un, .ow (D.int (x_size)), .sh (D.int (y9)), .ow (D.int (p5)), .ow (D.int (p6)), .ow ((eL (e2 D.int D.int)) (s14)), .ow (D.int (x_draw)), .un]) (rs_if (q_and (q_b (p_op (o_eq fit_int ly_int _ _) (p_var rfl) p_c)) (q_b (p_op (o_gt _ _) (p_var rfl) p_c))) (rs_last (rs_app (e2 D.int D.int) rfl (p_tup (p_cons (p_op (o_sub _ _) (p_var rfl) p_c) (p_cons (p_var rfl) p_nil)) rfl) (im_co (co_id ((y9 - (1 : Int)), y9)) ((im_2 im_int im_int) _)) fun x_pairs =>
  (rs_nil rfl))) (rs_nil rfl)) fun s14 =>
  (rs_last (rs_ob fun v15 hv15 =>
  (rs_forF (fun s17 : (List (Int × Int)) => [.sh ((eL D.int) (x_draws)), .sh (D.int (x_at)), .un, .ow (D.int (x_size)), .sh (D.int (y9)), .ow (D.int (p5)), .ow (D.int (p6)), .ow ((eL (e2 D.int D.int)) (s17)), .ow (D.int (x_draw)), .un]) D.int rfl (i_rng (o_rg1 hv15) (p_cons (p_var rfl) p_nil)) (fun s17 y16 => rsp_ok rfl (rs_ob fun v18 hv18 =>
  (rs_ob fun v19 hv19 =>
  (rs_if (q_and (q_b (p_op (o_eq fit_int ly_int _ _) (p_op (o_mod hv19) (p_op (o_fdiv hv18) (p_var rfl) (p_op (o_add _ _) (p_var rfl) p_c)) (p_op (o_add _ _) (p_var rfl) (p_ifE (e := D.int) (q_b (p_op (o_eq fit_int ly_int _ _) (p_var rfl) p_c)) p_c p_c))) p_c)) (q_b (p_op (o_ne fit_int ly_int _ _) (p_var rfl) p_c))) (rs_last (rs_app (e2 D.int D.int) rfl (p_tup (p_cons (p_var rfl) (p_cons (p_var rfl) p_nil)) rfl) (im_co (co_id (y16, y9)) ((im_2 im_int im_int) _)) fun x_pairs =>
  (rs_nil rfl))) (rs_nil rfl))))) fun s17 =>
  (rs_nil rfl))))))))) fun s10 =>
  (rs_seqM (fun s20 : (List (Int × Int)) => [.un, .un, .un, .ow (D.int (x_size)), .un, .un, .un, .ow ((eL (e2 D.int D.int)) (s20)), .un, .un]) (rs_if (q_and (q_b (p_op (o_eq fit_int ly_int _ _) (p_var rfl) p_c)) (q_b (p_op (o_gt _ _) (p_var rfl) p_c))) (rs_last (rs_app (e2 D.int D.int) rfl (p_tup (p_cons p_c (p_cons (p_op (o_sub _ _) (p_var rfl) p_c) p_nil)) rfl) (im_co (co_id ((0 : Int), (x_size - (1 : Int)))) ((im_2 im_int im_int) _)) fun x_pairs =>
  (rs_nil rfl))) (rs_nil rfl)) fun s20 =>
  (rs_ob fun v21 hv21 =>
  (rs_ret (p_top ((it_of (im_2 im_int (im_T (im_2 im_int im_int)))) _) (p_tup (p_cons (p_var rfl) (p_cons (p_call (o_tupL _) (p_cons (p_sortSet hv21 (p_var rfl)) p_nil)) p_nil)) rfl))))))))))))))
def t_law_times_u (x_size : Int) (x_ways : (List (List Int))) : R (List (List Int)) := TF.run' ((obind (rgO1 x_size) fun v1 =>
  (obind (tcomp v1 (fun y2 => (some true)) (fun y2 => ((rgO1 x_size).bind fun v3 => (tcomp v3 (fun y4 => (some true)) (fun y4 => (some (if (decide (y2 = y4)) = true then (0 : Int) else (1000 : Int)))))))) fun v6 =>
  (tlet v6 fun x_best =>
  (obind (mulO x_size x_size) fun v7 =>
  (obind (rgO1 (v7 + (1 : Int))) fun v8 =>
  ((tfor v8 x_best (fun s10 y9 =>
  (obind (tcomp s10 (fun y11 => (some true)) (fun y11 => (some y11))) fun v12 =>
  (tlet v12 fun x_later =>
  (obind (rgO1 x_size) fun v13 =>
  ((tfor v13 x_later (fun s15 y14 =>
  (obind (rgO1 x_size) fun v16 =>
  ((tfor v16 s15 (fun s18 y17 =>
  (if (!decide (y14 = y17)) = true then (obind (L2.atI x_ways y14) fun v19 =>
  (obind (tcomp v19 (fun y20 => (some true)) (fun y20 => (if (decide (y20 = y17)) = true then (some (0 : Int)) else ((L2.atI x_ways y17).bind fun v21 => ((tcomp v21 (fun y22 => (some true)) (fun y22 => ((L2.atI s10 y20).bind fun v23 => (L2.atI v23 y22)))).bind fun v25 => (maxI v25)))))) fun v28 =>
  (tlet v28 fun x_goes =>
  (obind (minI x_goes) fun v29 =>
  (obind (L2.atI s18 y14) fun v30 =>
  (obind (setO v30 y17 (min2 (1000 : Int) ((1 : Int) + v29))) fun c31 => tlet (setI s18 y14 c31) fun x_later =>
  .nx x_later)))))) else .nx s18)) : TF _ (List (List Int)) _).bind fun s18 =>
  .nx s18))) : TF _ (List (List Int)) _).bind fun s15 =>
  (if (decide (s15 = s10)) = true then TF.up (.rt s10) else (tlet s15 fun x_best =>
  .nx x_best))))))) : TF _ (List (List Int)) _).bind fun s10 =>
  .rt s10)))))) : TF Unit Empty (List (List Int)))
theorem tp_law_times_u (x_size : Int) (x_ways : (List (List Int))) : RG (eL (eL D.int)) (f_law_times_u [D.int x_size, (eL (eL D.int)) x_ways]) (t_law_times_u x_size x_ways) := by
  unfold f_law_times_u t_law_times_u g_law_times_u
  exact rf_run' ((rs_ob fun v1 hv1 =>
  (rs_ob fun v6 hv6 =>
  (rs_setF (eL (eL D.int)) (p_comp D.int (e := (eL D.int)) hv6 (i_rng (o_rg1 hv1) (p_cons (p_var rfl) p_nil)) (fun y2 w h => by cases h; exact ⟨_, rfl, rfl, (fun v5 h => by obtain ⟨v3, hv3, h⟩ := ob h; have hv5 := h; exact (p_top ((it_L im_int) _) (p_comp D.int (e := D.int) hv5 (i_rng (o_rg1 hv3) (p_cons (p_var rfl) p_nil)) (fun y4 w h => by cases h; exact ⟨_, rfl, rfl, (fun w h => by cases h; exact (p_ifE (e := D.int) (q_b (p_op (o_eq fit_int ly_int _ _) (p_var rfl) (p_var rfl))) p_c p_c))⟩))))⟩)) fun x_best =>
  (rs_ob fun v7 hv7 =>
  (rs_ob fun v8 hv8 =>
  (rs_forF (fun s10 : (List (List Int)) => [.sh (D.int (x_size)), .sh ((eL (eL D.int)) (x_ways)), .ow ((eL (eL D.int)) (s10)), .un, .un, .un, .un, .un, .un, .un, .un]) D.int rfl (i_rng (o_rg1 hv8) (p_cons (p_op (o_add _ _) (p_op (o_mul hv7) (p_var rfl) (p_var rfl)) p_c) p_nil)) (fun s10 y9 => rsp_ok rfl (rs_ob fun v12 hv12 =>
  (rs_setF (eL (eL D.int)) (p_comp (eL D.int) (e := (eL D.int)) hv12 (i_it (w_L _) (p_var rfl)) (fun y11 w h => by cases h; exact ⟨_, rfl, rfl, (fun w h => by cases h; exact (p_top ((it_L im_int) _) (p_call (o_listL _) (p_cons (p_var rfl) p_nil))))⟩)) fun x_later =>
  (rs_ob fun v13 hv13 =>
  (rs_forF (fun s15 : (List (List Int)) => [.sh (D.int (x_size)), .sh ((eL (eL D.int)) (x_ways)), .ow ((eL (eL D.int)) (s10)), .un, .ow ((eL (eL D.int)) (s15)), .un, .un, .un, .un, .un, .un]) D.int rfl (i_rng (o_rg1 hv13) (p_cons (p_var rfl) p_nil)) (fun s15 y14 => rsp_ok rfl (rs_last (rs_ob fun v16 hv16 =>
  (rs_forF (fun s18 : (List (List Int)) => [.sh (D.int (x_size)), .sh ((eL (eL D.int)) (x_ways)), .ow ((eL (eL D.int)) (s10)), .un, .ow ((eL (eL D.int)) (s18)), .sh (D.int (y14)), .un, .un, .un, .un, .un]) D.int rfl (i_rng (o_rg1 hv16) (p_cons (p_var rfl) p_nil)) (fun s18 y17 => rsp_ok rfl (rs_if (q_b (p_op (o_ne fit_int ly_int _ _) (p_var rfl) (p_var rfl))) (rs_ob fun v19 hv19 =>
  (rs_ob fun v28 hv28 =>
  (rs_setF (eL D.int) (p_top ((it_L im_int) _) (p_comp D.int (e := D.int) hv28 (i_it (w_L _) (p_op (o_ixL hv19) (p_var rfl) (p_var rfl))) (fun y20 w h => by cases h; exact ⟨_, rfl, rfl, (fun v27 hv27 => (p_ifO (e := D.int) hv27 (q_b (p_op (o_eq fit_int ly_int _ _) (p_var rfl) (p_var rfl))) (fun w h => by cases h; exact p_c) (fun v26 h => by obtain ⟨v21, hv21, h⟩ := ob h; obtain ⟨v25, hv25, h⟩ := ob h; have hv26 := h; exact (p_call (o_maxIL hv26) (p_cons (p_comp D.int (e := D.int) hv25 (i_it (w_L _) (p_op (o_ixL hv21) (p_var rfl) (p_var rfl))) (fun y22 w h => by cases h; exact ⟨_, rfl, rfl, (fun v24 h => by obtain ⟨v23, hv23, h⟩ := ob h; have hv24 := h; exact (p_op (o_ixL hv24) (p_op (o_ixL hv23) (p_var rfl) (p_var rfl)) (p_var rfl)))⟩)) p_nil)))))⟩))) fun x_goes =>
  (rs_last (rs_ob fun v29 hv29 =>
  (rs_ob fun v30 hv30 =>
  (rs_store (eR := (eL (eL D.int))) (rp_ixL hv30 (rp_v rfl) (p_var rfl)) (fun _ => rfl) (p_imm (im_int _) (p_call (o_minG2 _ _) (p_cons p_c (p_cons (p_op (o_add _ _) p_c (p_call (o_minIL hv29) (p_cons (p_var rfl) p_nil))) p_nil)))) (p_var rfl) (fun _ h => st_L h) fun x_later =>
  (rs_nil rfl)))))))) (rs_nil rfl))) fun s18 =>
  (rs_nil rfl))))) fun s15 =>
  (rs_ifX (q_b (p_op (o_eq (fit_L (fit_L fit_int)) (ly_L (ly_L ly_int)) _ _) (p_var rfl) (p_var rfl))) (rs_retVc (co_id s10) rfl) (rs_last (rs_move (eL (eL D.int)) rfl rfl fun x_best =>
  (rs_nil rfl))))))))) fun s10 =>
  (rs_retVc (co_id s10) rfl))))))))
def t_is_whole (x_value : D) (x_least : Int) (x_most : Int) : R Bool := TF.run' ((obind (isO x_value "int") fun v1 =>
  (obind (andO v1 ((isO x_value "bool").bind fun v2 => (andO (!v2) (((leD (D.int x_least) x_value).bind asB).bind fun v3 => (((leD x_value (D.int x_most)).bind asB).bind fun v4 => (some (v3 && v4))))))) fun v6 =>
  .rt v6)) : TF Unit Empty Bool)
theorem tp_is_whole (x_value : D) (x_least : Int) (x_most : Int) : RG D.bl (f_is_whole [eD x_value, D.int x_least, D.int x_most]) (t_is_whole x_value x_least x_most) := by
  unfold f_is_whole t_is_whole g_is_whole
  exact rf_run' ((rs_ob fun v1 hv1 =>
  (rs_ob fun v6 hv6 =>
  (rs_ret (p_imm (im_bl _) (p_andO hv6 (p_call (o_isi hv1) (p_cons (p_var rfl) (p_cons p_c p_nil))) (fun v5 h => by obtain ⟨v2, hv2, h⟩ := ob h; have hv5 := h; exact (p_andO hv5 (p_not (p_call (o_isi hv2) (p_cons (p_var rfl) (p_cons p_c p_nil)))) (fun w h => by obtain ⟨v3, hv3, h⟩ := ob h; obtain ⟨v4, hv4, h⟩ := ob h; cases h; exact (p_ch (dyB hv3) (dyB hv4) (p_co ((co_D D.int) x_least) (p_var rfl)) (p_var rfl) (p_co ((co_D D.int) x_most) (p_var rfl))))))))))))
def t_are_pairs_u (x_size : Int) (x_value : (List (Int × Int))) : R Bool := TF.run' ((obind (orO (!true) ((tcomp x_value (fun y1 => (some true)) (fun y1 => (some (true && (decide ((2 : Int) = (2 : Int))))))).bind fun v2 => (some (!(List.all v2 fun b => b))))) fun v3 =>
  (if v3 = true then TF.up (.rt false) else ((tfor x_value () (fun s5 y4 =>
  (obind (opt (t_is_whole ((D.int y4.1)) ((0 : Int)) ((x_size - (1 : Int))))) fun v6 =>
  (obind (orO (!v6) ((opt (t_is_whole ((D.int y4.2)) ((0 : Int)) ((x_size - (1 : Int))))).bind fun v7 => (some ((!v7) || (decide (y4.2 ≤ y4.1)))))) fun v8 =>
  (if v8 = true then .rt false else .nx ())))) : TF _ Unit _).bind fun s5 =>
  (obind (rgO1 ((List.length x_value : Int) - (1 : Int))) fun v9 =>
  (obind (tcomp v9 (fun y10 => (some true)) (fun y10 => ((L2.atI x_value y10).bind fun v11 => ((L2.atI x_value (y10 + (1 : Int))).bind fun v12 => (some (HT.lexLt [v11.1, v11.2] [v12.1, v12.2])))))) fun v13 =>
  .rt (List.all v13 fun b => b)))))) : TF Unit Empty Bool)
theorem tp_are_pairs_u (x_size : Int) (x_value : (List (Int × Int))) : RG D.bl (f_are_pairs_u [D.int x_size, (eT (e2 D.int D.int)) x_value]) (t_are_pairs_u x_size x_value) := by
  unfold f_are_pairs_u t_are_pairs_u g_are_pairs_u
  exact rf_run' ((rs_ob fun v3 hv3 =>
  (rs_ifX (q_orO hv3 (q_not (q_b (p_call (z := .bl true) (by first | rfl | simp [isiF, isiB, tyName, subTy, eN, eL, eT, eZ, e0, e1, e2, e3, e4]) (p_cons (p_var rfl) (p_cons p_c p_nil))))) (fun w h => by obtain ⟨v2, hv2, h⟩ := ob h; cases h; exact (q_not (q_b (p_call (o_all _) (p_cons (p_comp (e2 D.int D.int) (e := D.bl) hv2 (i_it (w_T _) (p_var rfl)) (fun y1 w h => by cases h; exact ⟨_, rfl, rfl, (fun w h => by cases h; exact (p_and (p_call (z := .bl true) (by first | rfl | simp [isiF, isiB, tyName, subTy, eN, eL, eT, eZ, e0, e1, e2, e3, e4]) (p_cons (p_var rfl) (p_cons p_c p_nil))) (p_op (o_eq fit_int ly_int _ _) (p_call rfl (p_cons (p_var rfl) p_nil)) p_c)))⟩)) p_nil)))))) (rs_ret (p_imm (im_bl _) p_c)) (rs_forS (fun s5 : Unit => [.sh (D.int (x_size)), .sh ((eT (e2 D.int D.int)) (x_value)), .un, .un, .un, .un]) (e2 D.int D.int) rfl rfl (i_it (w_T _) (p_var rfl)) (fun s5 y4 => rsp_ok rfl (rs_ob fun v6 hv6 =>
  (rs_ob fun v8 hv8 =>
  (rs_if (q_orO hv8 (q_not (q_b (p_fn (RG.opt (tp_is_whole _ _ _) hv6) (p_cons (p_co ((co_D D.int) y4.1) (p_var rfl)) (p_cons p_c (p_cons (p_op (o_sub _ _) (p_var rfl) p_c) p_nil)))))) (fun w h => by obtain ⟨v7, hv7, h⟩ := ob h; cases h; exact (q_or (q_not (q_b (p_fn (RG.opt (tp_is_whole _ _ _) hv7) (p_cons (p_co ((co_D D.int) y4.2) (p_var rfl)) (p_cons p_c (p_cons (p_op (o_sub _ _) (p_var rfl) p_c) p_nil)))))) (q_b (p_op (o_geI _ _) (p_var rfl) (p_var rfl)))))) (rs_ret (p_imm (im_bl _) p_c)) (rs_nil rfl))))) fun s5 =>
  (rs_ob fun v9 hv9 =>
  (rs_ob fun v13 hv13 =>
  (rs_ret (p_imm (im_bl _) (p_call (o_all _) (p_cons (p_comp D.int (e := D.bl) hv13 (i_rng (o_rg1 hv9) (p_cons (p_op (o_sub _ _) (p_call (o_lenT _) (p_cons (p_var rfl) p_nil)) p_c) p_nil)) (fun y10 w h => by cases h; exact ⟨_, rfl, rfl, (fun w h => by obtain ⟨v11, hv11, h⟩ := ob h; obtain ⟨v12, hv12, h⟩ := ob h; cases h; exact (p_op (o_ltT _ _) (p_co ((co_2T (b := D.int) (c := (fun z => z)) (c2 := (fun z => z)) co_id co_id) v11) (p_op (o_ixT hv11) (p_var rfl) (p_var rfl))) (p_co ((co_2T (b := D.int) (c := (fun z => z)) (c2 := (fun z => z)) co_id co_id) v12) (p_op (o_ixT hv12) (p_var rfl) (p_op (o_add _ _) (p_var rfl) p_c)))))⟩)) p_nil))))))))))
def t_Net_init (x_size : Int) (x_pairs : (List (Int × Int))) : R T_Net := TF.runI ((obind (opt (t_is_whole ((D.int x_size)) ((1 : Int)) ((24 : Int)))) fun v1 =>
  (obind (orO (!v1) ((opt (t_are_pairs_u (x_size) (x_pairs))).bind fun v2 => (some (!v2)))) fun v3 =>
  (if v3 = true then TF.up (.ex "BadNet") else (tlet x_size fun x_self_size =>
  (tlet x_pairs fun x_self_pairs =>
  (obind (rgO1 x_size) fun v4 =>
  (obind (tcomp v4 (fun y5 => (some true)) (fun y5 => (some ([] : (List Int))))) fun v6 =>
  (tlet v6 fun x_self__near =>
  ((tfor x_pairs x_self__near (fun s8 y7 =>
  (obind (L2.atI s8 y7.1) fun v9 =>
  (obind (appO v9 y7.2) fun c10 => tlet (setI s8 y7.1 c10) fun x_self__near =>
  (obind (L2.atI x_self__near y7.2) fun v11 =>
  (obind (appO v11 y7.1) fun c12 => tlet (setI x_self__near y7.2 c12) fun x_self__near =>
  .nx x_self__near))))) : TF _ (List (List Int)) _).bind fun s8 =>
  .nx (x_self_size, x_self_pairs, s8)))))))))) : TF Unit T_Net Unit)
theorem tp_Net_init (x_size : Int) (x_pairs : (List (Int × Int))) : RG e_Net0 (f_Net_init [D.int x_size, (eT (e2 D.int D.int)) x_pairs]) (t_Net_init x_size x_pairs) := by
  unfold f_Net_init t_Net_init g_Net_init
  exact rf_init (c := "Net") (fs := ["size", "pairs", "_near"]) (xs := fun s : T_Net => [D.int s.1, (eT (e2 D.int D.int)) s.2.1, (eL (eL D.int)) s.2.2]) rfl (fun i_ => (rs_ob fun v1 hv1 =>
  (rs_ob fun v3 hv3 =>
  (rs_ifX (q_orO hv3 (q_not (q_b (p_fn (RG.opt (tp_is_whole _ _ _) hv1) (p_cons (p_co ((co_D D.int) x_size) (p_var rfl)) (p_cons p_c (p_cons p_c p_nil)))))) (fun w h => by obtain ⟨v2, hv2, h⟩ := ob h; cases h; exact (q_not (q_b (p_fn (RG.opt (tp_are_pairs_u _ _) hv2) (p_cons (p_var rfl) (p_cons (p_var rfl) p_nil))))))) rs_raise (rs_fldF D.int rfl (by decide +kernel) (p_imm (im_int _) (p_var rfl)) fun x_self_size =>
  (rs_fldF (eT (e2 D.int D.int)) rfl (by decide +kernel) (p_imm ((im_T (im_2 im_int im_int)) _) (p_var rfl)) fun x_self_pairs =>
  (rs_ob fun v4 hv4 =>
  (rs_ob fun v6 hv6 =>
  (rs_fldF (eL (eL D.int)) rfl (by decide +kernel) (p_comp D.int (e := (eL D.int)) hv6 (i_rng (o_rg1 hv4) (p_cons (p_var rfl) p_nil)) (fun y5 w h => by cases h; exact ⟨_, rfl, rfl, (fun w h => by cases h; exact (p_top ((it_L im_int) _) (p_lst p_nil rfl)))⟩)) fun x_self__near =>
  (rs_last (rs_forS (fun s8 : (List (List Int)) => [.ow (.ins "Net" (some i_) ["size", "pairs", "_near"] [D.int (x_self_size), (eT (e2 D.int D.int)) (x_self_pairs), (eL (eL D.int)) (s8)]), .un, .sh ((eT (e2 D.int D.int)) (x_pairs)), .un, .un, .un]) (e2 D.int D.int) rfl rfl (i_it (w_T _) (p_var rfl)) (fun s8 y7 => rsp_ok rfl (rs_ob fun v9 hv9 =>
  (rs_appP (eR := (fun z_ => D.ins "Net" (some i_) ["size", "pairs", "_near"] [D.int (x_self_size), (eT (e2 D.int D.int)) (x_self_pairs), (eL (eL D.int)) z_])) (rp_ixL hv9 (rp_fld (pos := 2) (rp_v (e := eD) rfl) (by decide +kernel) rfl) (p_var rfl)) (fun _ => rfl) (p_imm (im_int _) (p_var rfl)) fun x_self__near =>
  (rs_last (rs_ob fun v11 hv11 =>
  (rs_appP (eR := (fun z_ => D.ins "Net" (some i_) ["size", "pairs", "_near"] [D.int (x_self_size), (eT (e2 D.int D.int)) (x_self_pairs), (eL (eL D.int)) z_])) (rp_ixL hv11 (rp_fld (pos := 2) (rp_v (e := eD) rfl) (by decide +kernel) rfl) (p_var rfl)) (fun _ => rfl) (p_imm (im_int _) (p_var rfl)) fun x_self__near =>
  (rs_nil rfl))))))) fun s8 =>
  (rs_nil rfl))))))))))))
def t_law_ways_u (x_size : Int) (x_pairs : (List (Int × Int))) : R (List (List Int)) := TF.run' ((obind (rgO1 x_size) fun v1 =>
  (obind (tcomp v1 (fun y2 => (some true)) (fun y2 => (some [y2]))) fun v3 =>
  (tlet v3 fun x_ways =>
  ((tfor x_pairs x_ways (fun s5 y4 =>
  (obind (L2.atI s5 y4.1) fun v6 =>
  (obind (appO v6 y4.2) fun c7 => tlet (setI s5 y4.1 c7) fun x_ways =>
  (obind (L2.atI x_ways y4.2) fun v8 =>
  (obind (appO v8 y4.1) fun c9 => tlet (setI x_ways y4.2 c9) fun x_ways =>
  .nx x_ways))))) : TF _ (List (List Int)) _).bind fun s5 =>
  (obind (tcomp s5 (fun y10 => (some true)) (fun y10 => (sortO D.int y10))) fun v12 =>
  .rt v12))))) : TF Unit Empty (List (List Int)))
theorem tp_law_ways_u (x_size : Int) (x_pairs : (List (Int × Int))) : RG (eL (eL D.int)) (f_law_ways_u [D.int x_size, (eT (e2 D.int D.int)) x_pairs]) (t_law_ways_u x_size x_pairs) := by
  unfold f_law_ways_u t_law_ways_u g_law_ways_u
  exact rf_run' ((rs_ob fun v1 hv1 =>
  (rs_ob fun v3 hv3 =>
  (rs_setF (eL (eL D.int)) (p_comp D.int (e := (eL D.int)) hv3 (i_rng (o_rg1 hv1) (p_cons (p_var rfl) p_nil)) (fun y2 w h => by cases h; exact ⟨_, rfl, rfl, (fun w h => by cases h; exact (p_top ((it_L im_int) _) (p_lst (p_cons (p_var rfl) p_nil) rfl)))⟩)) fun x_ways =>
  (rs_forS (fun s5 : (List (List Int)) => [.un, .sh ((eT (e2 D.int D.int)) (x_pairs)), .ow ((eL (eL D.int)) (s5)), .un, .un, .un, .un]) (e2 D.int D.int) rfl rfl (i_it (w_T _) (p_var rfl)) (fun s5 y4 => rsp_ok rfl (rs_ob fun v6 hv6 =>
  (rs_appP (eR := (eL (eL D.int))) (rp_ixL hv6 (rp_v rfl) (p_var rfl)) (fun _ => rfl) (p_imm (im_int _) (p_var rfl)) fun x_ways =>
  (rs_last (rs_ob fun v8 hv8 =>
  (rs_appP (eR := (eL (eL D.int))) (rp_ixL hv8 (rp_v rfl) (p_var rfl)) (fun _ => rfl) (p_imm (im_int _) (p_var rfl)) fun x_ways =>
  (rs_nil rfl))))))) fun s5 =>
  (rs_ob fun v12 hv12 =>
  (rs_ret (p_comp (eL D.int) (e := (eL D.int)) hv12 (i_it (w_L _) (p_var rfl)) (fun y10 w h => by cases h; exact ⟨_, rfl, rfl, (fun v11 hv11 => (p_top ((it_L im_int) _) (p_call (o_sortL hv11) (p_cons (p_var rfl) p_nil))))⟩)))))))))
def t_check_place (x_net : T_Net) (x_value : D) : R Unit := TF.run (id ()) ((obind (opt (t_is_whole (x_value) ((0 : Int)) ((x_net.1 - (1 : Int))))) fun v1 =>
  (if (!v1) = true then .ex "BadPlace" else .nx ())) : TF Unit Unit Unit)
theorem tp_check_place (x_net : T_Net) (x_value : D) : RG eN (f_check_place [e_Net x_net, eD x_value]) (t_check_place x_net x_value) := by
  unfold f_check_place t_check_place g_check_place
  exact rf_run rfl ((rs_ob fun v1 hv1 =>
  (rs_if (q_not (q_b (p_fn (RG.opt (tp_is_whole _ _ _) hv1) (p_cons (p_var rfl) (p_cons p_c (p_cons (p_op (o_sub _ _) (p_fld (fl_Net_size _) (p_var rfl)) p_c) p_nil)))))) rs_raise (rs_nil rfl))))
def t_Net_ways (x_self : T_Net) (x_place : Int) : R (List Int) := TF.run' ((obind (L2.atI x_self.2.2 x_place) fun v1 =>
  (obind (extO v1 [x_place]) fun v2 =>
  (obind (sortO D.int v2) fun v3 =>
  .rt v3))) : TF Unit Empty (List Int))
theorem tp_Net_ways (x_self : T_Net) (x_place : Int) : RG (eT D.int) (f_Net_ways [e_Net x_self, D.int x_place]) (t_Net_ways x_self x_place) := by
  unfold f_Net_ways t_Net_ways g_Net_ways
  exact rf_run' ((rs_ob fun v1 hv1 =>
  (rs_ob fun v2 hv2 =>
  (rs_ob fun v3 hv3 =>
  (rs_ret (p_top ((it_of (im_T im_int)) _) (p_call (o_tupL _) (p_cons (p_call (o_sortL hv3) (p_cons (p_op (o_addYL hv2) (p_op (o_ixY hv1) (p_fld (fl_Net__near _) (p_var rfl)) (p_var rfl)) (p_lst (p_cons (p_var rfl) p_nil) rfl)) p_nil)) p_nil))))))))
def t_Times_best (x_self : T_Times) (x_chaser : Int) (x_thief : Int) : R D := TF.run' ((obind (opt (t_Net_ways (x_self.1) (x_chaser))) fun v1 =>
  (obind (tcomp v1 (fun y2 => (some (memL (y2, x_thief) (List.map Prod.fst x_self.2.2)))) (fun y2 => (some y2))) fun v3 =>
  (tlet v3 fun x_ways =>
  (obind (tcomp x_ways (fun y4 => (some true)) (fun y4 => ((getM x_self.2.2 (y4, x_thief)).bind fun v5 => (some (v5, y4))))) fun v6 =>
  (obind (minG [((eL (e2 D.int D.int)) v6)]) fun v7 =>
  (obind (idxD v7 (D.int (1 : Int))) fun v8 =>
  (obind (immO v8) fun v9 =>
  .rt v8))))))) : TF Unit Empty D)
theorem tp_Times_best (x_self : T_Times) (x_chaser : Int) (x_thief : Int) : RG eD (f_Times_best [e_Times x_self, D.int x_chaser, D.int x_thief]) (t_Times_best x_self x_chaser x_thief) := by
  unfold f_Times_best t_Times_best g_Times_best
  exact rf_run' ((rs_ob fun v1 hv1 =>
  (rs_ob fun v3 hv3 =>
  (rs_setF (eL D.int) (p_top ((it_L im_int) _) (p_comp D.int (e := D.int) hv3 (i_it (w_T _) (p_meth (RG.opt (tp_Net_ways _ _) hv1) (in_Net_ways _) (p_fld (fl_Times_net _) (p_var rfl)) (p_cons (p_var rfl) p_nil))) (fun y2 w h => by cases h; exact ⟨_, rfl, (q_b (p_op (o_inB (o_inMt (ev := D.int) (kt_2 k_int k_int) ((y2, x_thief)) (x_self.2.2))) (p_tup (p_cons (p_var rfl) (p_cons (p_var rfl) p_nil)) rfl) (p_fld (fl_Times_behind _) (p_var rfl)))), (fun w h => by cases h; exact (p_var rfl))⟩))) fun x_ways =>
  (rs_ob fun v6 hv6 =>
  (rs_ob fun v7 hv7 =>
  (rs_ob fun v8 hv8 =>
  (rs_ob fun v9 hv9 =>
  (rs_ret (p_imm (immO_some hv9) (p_op hv8 (p_call hv7 (p_coL ((co_D (eL (e2 D.int D.int))) v6) (p_cons (p_comp D.int (e := (e2 D.int D.int)) hv6 (i_it (w_L _) (p_var rfl)) (fun y4 w h => by cases h; exact ⟨_, rfl, rfl, (fun w h => by obtain ⟨v5, hv5, h⟩ := ob h; cases h; exact (p_tup (p_cons (p_op (o_ixMt (kt_2 k_int k_int) hv5) (p_fld (fl_Times_behind _) (p_var rfl)) (p_tup (p_cons (p_var rfl) (p_cons (p_var rfl) p_nil)) rfl)) (p_cons (p_var rfl) p_nil)) rfl))⟩)) p_nil))) (p_co ((co_D D.int) (1 : Int)) p_c))))))))))))
def t_chaser_goes_u (x_times : T_Times) (x_chaser : Int) (x_thief : Int) : R D := TF.run' ((obind (opt (t_Net_ways (x_times.1) (x_chaser))) fun v1 =>
  (if (decide (x_thief ∈ v1)) = true then TF.up (.rt (D.int x_thief)) else (if (!(memL (x_chaser, x_thief) (List.map Prod.fst x_times.2.1))) = true then TF.up (.rt (D.int x_chaser)) else (obind (opt (t_Times_best (x_times) (x_chaser) (x_thief))) fun v2 =>
  .rt v2)))) : TF Unit Empty D)
theorem tp_chaser_goes_u (x_times : T_Times) (x_chaser : Int) (x_thief : Int) : RG eD (f_chaser_goes_u [e_Times x_times, D.int x_chaser, D.int x_thief]) (t_chaser_goes_u x_times x_chaser x_thief) := by
  unfold f_chaser_goes_u t_chaser_goes_u g_chaser_goes_u
  exact rf_run' ((rs_ob fun v1 hv1 =>
  (rs_ifX (q_b (p_op (o_inT fit_int ly_int (x_thief) (v1)) (p_var rfl) (p_meth (RG.opt (tp_Net_ways _ _) hv1) (in_Net_ways _) (p_fld (fl_Times_net _) (p_var rfl)) (p_cons (p_var rfl) p_nil)))) (rs_retSc ((co_D D.int) x_thief) (im_int _) rfl) (rs_ifX (q_b (p_op (nin_of (o_inB (o_inMt (ev := D.int) (kt_2 k_int k_int) ((x_chaser, x_thief)) (x_times.2.1)))) (p_tup (p_cons (p_var rfl) (p_cons (p_var rfl) p_nil)) rfl) (p_fld (fl_Times_before _) (p_var rfl)))) (rs_retSc ((co_D D.int) x_chaser) (im_int _) rfl) (rs_ob fun v2 hv2 =>
  (rs_ret (p_meth (RG.opt (tp_Times_best _ _ _) hv2) (in_Times_best _) (p_var rfl) (p_cons (p_var rfl) (p_cons (p_var rfl) p_nil)))))))))
def t_Times_step_u (x_self : T_Times) (x_turns : Int) : R (Bool × T_Times) := TF.run' ((tlet [] fun x_later =>
  (obind (rgO1 x_self.1.1) fun v1 =>
  ((tfor v1 x_later (fun s3 y2 =>
  (obind (rgO1 x_self.1.1) fun v4 =>
  ((tfor v4 s3 (fun s6 y5 =>
  (if (!(memL (y2, y5) (List.map Prod.fst x_self.2.1))) = true then (obind (opt (t_Net_ways (x_self.1) (y2))) fun v7 =>
  (obind (tcomp v7 (fun y8 => (some true)) (fun y8 => (some (memL (y8, y5) (List.map Prod.fst x_self.2.2))))) fun v9 =>
  (if (List.any v9 fun b => b) = true then (obind (putM s6 (y2, y5) (x_turns + (1 : Int))) fun c10 => tlet c10 fun x_later =>
  .nx x_later) else .nx s6))) else .nx s6)) : TF _ (List ((Int × Int) × Int)) _).bind fun s6 =>
  .nx s6))) : TF _ (List ((Int × Int) × Int)) _).bind fun s3 =>
  (obind (updM x_self.2.1 s3) fun c11 => tlet c11 fun x_self_before =>
  (obind (rgO1 x_self.1.1) fun v12 =>
  ((tfor v12 x_self.2.2 (fun s14 y13 =>
  (obind (rgO1 x_self.1.1) fun v15 =>
  ((tfor v15 s14 (fun s17 y16 =>
  (if (!(memL (y13, y16) (List.map Prod.fst s17))) = true then (obind (opt (t_Net_ways (x_self.1) (y16))) fun v18 =>
  (obind (tcomp v18 (fun y19 => (some true)) (fun y19 => (some (memL (y13, y19) (List.map Prod.fst x_self_before))))) fun v20 =>
  (if (List.all v20 fun b => b) = true then (obind (putM s17 (y13, y16) (x_turns + (1 : Int))) fun c21 => tlet c21 fun x_self_behind =>
  .nx x_self_behind) else .nx s17))) else .nx s17)) : TF _ (List ((Int × Int) × Int)) _).bind fun s17 =>
  .nx s17))) : TF _ (List ((Int × Int) × Int)) _).bind fun s14 =>
  .rt ((decide ((0 : Int) < (List.length s3 : Int))), (x_self.1, x_self_before, s14)))))))) : TF Unit Empty (Bool × T_Times))
theorem tp_Times_step_u (x_self : T_Times) (x_turns : Int) : RIOb ["net", "before", "behind"] v_Times (f_Times_step_u (.ins "Times" none ["net", "before", "behind"] (v_Times x_self) :: [D.int x_turns])) (t_Times_step_u x_self x_turns) := by
  unfold f_Times_step_u t_Times_step_u g_Times_step_u
  exact rf_iob (c := "Times") rfl (fun i_ => (rs_setF (eMt (k2 kI kI) D.int) p_emMt fun x_later =>
  (rs_ob fun v1 hv1 =>
  (rs_forF (fun s3 : (List ((Int × Int) × Int)) => [.ow (.ins "Times" (some i_) ["net", "before", "behind"] [e_Net (x_self.1), (eMt (k2 kI kI) D.int) (x_self.2.1), (eMt (k2 kI kI) D.int) (x_self.2.2)]), .sh (D.int (x_turns)), .ow ((eMt (k2 kI kI) D.int) (s3)), .un, .un, .un]) D.int rfl (i_rng (o_rg1 hv1) (p_cons (p_fld (fl_Net_size _) (p_fld (by simp (decide := true) [fldD, fldOf, eD]) (p_var rfl))) p_nil)) (fun s3 y2 => rsp_ok rfl (rs_last (rs_ob fun v4 hv4 =>
  (rs_forF (fun s6 : (List ((Int × Int) × Int)) => [.ow (.ins "Times" (some i_) ["net", "before", "behind"] [e_Net (x_self.1), (eMt (k2 kI kI) D.int) (x_self.2.1), (eMt (k2 kI kI) D.int) (x_self.2.2)]), .sh (D.int (x_turns)), .ow ((eMt (k2 kI kI) D.int) (s6)), .sh (D.int (y2)), .un, .un]) D.int rfl (i_rng (o_rg1 hv4) (p_cons (p_fld (fl_Net_size _) (p_fld (by simp (decide := true) [fldD, fldOf, eD]) (p_var rfl))) p_nil)) (fun s6 y5 => rsp_ok rfl (rs_if (q_b (p_op (nin_of (o_inB (o_inMt (ev := D.int) (kt_2 k_int k_int) ((y2, y5)) (x_self.2.1)))) (p_tup (p_cons (p_var rfl) (p_cons (p_var rfl) p_nil)) rfl) (p_fld (by simp (decide := true) [fldD, fldOf, eD]) (p_var rfl)))) (rs_ob fun v7 hv7 =>
  (rs_ob fun v9 hv9 =>
  (rs_if (q_b (p_call (o_any _) (p_cons (p_comp D.int (e := D.bl) hv9 (i_it (w_T _) (p_meth (RG.opt (tp_Net_ways _ _) hv7) (in_Net_ways _) (p_fld (by simp (decide := true) [fldD, fldOf, eD]) (p_var rfl)) (p_cons (p_var rfl) p_nil))) (fun y8 w h => by cases h; exact ⟨_, rfl, rfl, (fun w h => by cases h; exact (p_op (o_inB (o_inMt (ev := D.int) (kt_2 k_int k_int) ((y8, y5)) (x_self.2.2))) (p_tup (p_cons (p_var rfl) (p_cons (p_var rfl) p_nil)) rfl) (p_fld (by simp (decide := true) [fldD, fldOf, eD]) (p_var rfl))))⟩)) p_nil))) (rs_last (rs_store (eR := (eMt (k2 kI kI) D.int)) (rp_v rfl) (fun _ => rfl) (p_imm (im_int _) (p_op (o_add _ _) (p_var rfl) p_c)) (p_tup (p_cons (p_var rfl) (p_cons (p_var rfl) p_nil)) rfl) (fun _ h => st_Mt (kt_2 k_int k_int) im_int h) fun x_later =>
  (rs_nil rfl))) (rs_nil rfl)))) (rs_nil rfl))) fun s6 =>
  (rs_nil rfl))))) fun s3 =>
  (rs_updP (eR := (fun z_ => D.ins "Times" (some i_) ["net", "before", "behind"] [e_Net (x_self.1), (eMt (k2 kI kI) D.int) z_, (eMt (k2 kI kI) D.int) (x_self.2.2)])) (kt_2 k_int k_int).inj im_int (rp_fld (pos := 1) (rp_v (e := eD) rfl) (by decide +kernel) rfl) (fun _ => rfl) rfl rfl fun x_self_before =>
  (rs_ob fun v12 hv12 =>
  (rs_forF (fun s14 : (List ((Int × Int) × Int)) => [.ow (.ins "Times" (some i_) ["net", "before", "behind"] [e_Net (x_self.1), (eMt (k2 kI kI) D.int) (x_self_before), (eMt (k2 kI kI) D.int) (s14)]), .sh (D.int (x_turns)), .ow ((eMt (k2 kI kI) D.int) (s3)), .un, .un, .un]) D.int rfl (i_rng (o_rg1 hv12) (p_cons (p_fld (fl_Net_size _) (p_fld (by simp (decide := true) [fldD, fldOf, eD]) (p_var rfl))) p_nil)) (fun s14 y13 => rsp_ok rfl (rs_last (rs_ob fun v15 hv15 =>
  (rs_forF (fun s17 : (List ((Int × Int) × Int)) => [.ow (.ins "Times" (some i_) ["net", "before", "behind"] [e_Net (x_self.1), (eMt (k2 kI kI) D.int) (x_self_before), (eMt (k2 kI kI) D.int) (s17)]), .sh (D.int (x_turns)), .ow ((eMt (k2 kI kI) D.int) (s3)), .sh (D.int (y13)), .un, .un]) D.int rfl (i_rng (o_rg1 hv15) (p_cons (p_fld (fl_Net_size _) (p_fld (by simp (decide := true) [fldD, fldOf, eD]) (p_var rfl))) p_nil)) (fun s17 y16 => rsp_ok rfl (rs_if (q_b (p_op (nin_of (o_inB (o_inMt (ev := D.int) (kt_2 k_int k_int) ((y13, y16)) (s17)))) (p_tup (p_cons (p_var rfl) (p_cons (p_var rfl) p_nil)) rfl) (p_fld (by simp (decide := true) [fldD, fldOf, eD]) (p_var rfl)))) (rs_ob fun v18 hv18 =>
  (rs_ob fun v20 hv20 =>
  (rs_if (q_b (p_call (o_all _) (p_cons (p_comp D.int (e := D.bl) hv20 (i_it (w_T _) (p_meth (RG.opt (tp_Net_ways _ _) hv18) (in_Net_ways _) (p_fld (by simp (decide := true) [fldD, fldOf, eD]) (p_var rfl)) (p_cons (p_var rfl) p_nil))) (fun y19 w h => by cases h; exact ⟨_, rfl, rfl, (fun w h => by cases h; exact (p_op (o_inB (o_inMt (ev := D.int) (kt_2 k_int k_int) ((y13, y19)) (x_self_before))) (p_tup (p_cons (p_var rfl) (p_cons (p_var rfl) p_nil)) rfl) (p_fld (by simp (decide := true) [fldD, fldOf, eD]) (p_var rfl))))⟩)) p_nil))) (rs_last (rs_store (eR := (fun z_ => D.ins "Times" (some i_) ["net", "before", "behind"] [e_Net (x_self.1), (eMt (k2 kI kI) D.int) (x_self_before), (eMt (k2 kI kI) D.int) z_])) (rp_fld (pos := 2) (rp_v (e := eD) rfl) (by decide +kernel) rfl) (fun _ => rfl) (p_imm (im_int _) (p_op (o_add _ _) (p_var rfl) p_c)) (p_tup (p_cons (p_var rfl) (p_cons (p_var rfl) p_nil)) rfl) (fun _ h => st_Mt (kt_2 k_int k_int) im_int h) fun x_self_behind =>
  (rs_nil rfl))) (rs_nil rfl)))) (rs_nil rfl))) fun s17 =>
  (rs_nil rfl))))) fun s14 =>
  (rs_retIO rfl (p_op (o_gt _ _) (p_call (o_lenMt _) (p_cons (p_var rfl) p_nil)) p_c) rfl))))))))
def t_Times_init (x_net : T_Net) : R T_Times := TF.runI ((tlet x_net fun x_self_net =>
  (obind (rgO1 x_net.1) fun v1 =>
  (obind (tdcM v1 (fun y2 => (some true)) (fun y2 => (some (y2, y2))) (fun y2 => (some (0 : Int))) []) fun v3 =>
  (tlet v3 fun x_self_before =>
  (obind (rgO1 x_net.1) fun v4 =>
  (obind (tdcM v4 (fun y5 => (some true)) (fun y5 => (some (y5, y5))) (fun y5 => (some (0 : Int))) []) fun v6 =>
  (tlet v6 fun x_self_behind =>
  (tlet (0 : Int) fun x_turns =>
  ((twhileM 1000000 (x_turns, x_self_net, x_self_before, x_self_behind) (fun s7 => (opt (t_Times_step_u (s7.2.1, s7.2.2.1, s7.2.2.2) (s7.1))).bind fun y_ => some (y_.1, (s7.1, y_.2.1, y_.2.2.1, y_.2.2.2))) (fun s7 =>
  (tlet (s7.1 + (1 : Int)) fun x_turns =>
  .nx (x_turns, s7.2.1, s7.2.2.1, s7.2.2.2))) : TF _ (Int × T_Net × (List ((Int × Int) × Int)) × (List ((Int × Int) × Int))) _).bind fun s7 =>
  .nx (s7.2.1, s7.2.2.1, s7.2.2.2)))))))))) : TF Unit T_Times Unit)
theorem tp_Times_init (x_net : T_Net) : RG e_Times (f_Times_init [e_Net x_net]) (t_Times_init x_net) := by
  unfold f_Times_init t_Times_init g_Times_init
  exact rf_init (c := "Times") (fs := ["net", "before", "behind"]) (xs := fun s : T_Times => [e_Net s.1, (eMt (k2 kI kI) D.int) s.2.1, (eMt (k2 kI kI) D.int) s.2.2]) rfl (fun i_ => (rs_fldF e_Net rfl (by decide +kernel) (p_imm (im_Net _) (p_var rfl)) fun x_self_net =>
  (rs_ob fun v1 hv1 =>
  (rs_ob fun v3 hv3 =>
  (rs_fldF (eMt (k2 kI kI) D.int) rfl (by decide +kernel) (p_dcompM D.int (mk := eMt (k2 kI kI) D.int) (fun _ _ _ _ h => st_Mt (kt_2 k_int k_int) im_int h) hv3 rfl (i_rng (o_rg1 hv1) (p_cons (p_fld (fl_Net_size _) (p_var rfl)) p_nil)) (fun y2 w h => by cases h; exact ⟨_, rfl, rfl, (fun w h => by cases h; exact (p_tup (p_cons (p_var rfl) (p_cons (p_var rfl) p_nil)) rfl)), (fun w h => by cases h; exact (p_imm (im_int _) p_c))⟩)) fun x_self_before =>
  (rs_ob fun v4 hv4 =>
  (rs_ob fun v6 hv6 =>
  (rs_fldF (eMt (k2 kI kI) D.int) rfl (by decide +kernel) (p_dcompM D.int (mk := eMt (k2 kI kI) D.int) (fun _ _ _ _ h => st_Mt (kt_2 k_int k_int) im_int h) hv6 rfl (i_rng (o_rg1 hv4) (p_cons (p_fld (fl_Net_size _) (p_var rfl)) p_nil)) (fun y5 w h => by cases h; exact ⟨_, rfl, rfl, (fun w h => by cases h; exact (p_tup (p_cons (p_var rfl) (p_cons (p_var rfl) p_nil)) rfl)), (fun w h => by cases h; exact (p_imm (im_int _) p_c))⟩)) fun x_self_behind =>
  (rs_setI D.int im_int p_c fun x_turns =>
  (rs_last (rs_whileM (fun s7 : (Int × T_Net × (List ((Int × Int) × Int)) × (List ((Int × Int) × Int))) => [.ow (.ins "Times" (some i_) ["net", "before", "behind"] [e_Net (s7.2.1), (eMt (k2 kI kI) D.int) (s7.2.2.1), (eMt (k2 kI kI) D.int) (s7.2.2.2)]), .un, .ow (D.int (s7.1)), .un]) rfl (fun s7 _ _ h => by obtain ⟨y_, hy_, h⟩ := ob h; cases h; exact (p_mb (p_io (c := "Times") (m := "_step") (fs := ["net", "before", "behind"]) rfl (by decide +kernel) (p_cons (p_var rfl) p_nil) (RIOb.opt (tp_Times_step_u (s7.2.1, s7.2.2.1, s7.2.2.2) (s7.1)) hy_)))) (fun s7 => (rs_last (rs_aug rfl p_c rfl fun x_turns =>
  (rs_nil rfl)))) fun s7 =>
  (rs_nil rfl))))))))))))
def t_chaser_goes (x_net : T_Net) (x_chaser : D) (x_thief : D) : R D := TF.run' ((rbind (t_check_place (x_net) (x_chaser)) fun u1 =>
  (rbind (t_check_place (x_net) (x_thief)) fun u2 =>
  (obind (asI x_chaser) fun w3 =>
  (obind (asI x_thief) fun w4 =>
  (obind (opt (t_Times_init (x_net))) fun v5 =>
  (obind (opt (t_chaser_goes_u (v5) (w3) (w4))) fun v6 =>
  .rt v6)))))) : TF Unit Empty D)
theorem tp_chaser_goes (x_net : T_Net) (x_chaser : D) (x_thief : D) : RG eD (f_chaser_goes [e_Net x_net, eD x_chaser, eD x_thief]) (t_chaser_goes x_net x_chaser x_thief) := by
  unfold f_chaser_goes t_chaser_goes g_chaser_goes
  exact rf_run' ((rs_drop (rg_fn (tp_check_place _ _) (p_cons (p_var rfl) (p_cons (p_var rfl) p_nil))) fun u1 =>
  (rs_drop (rg_fn (tp_check_place _ _) (p_cons (p_var rfl) (p_cons (p_var rfl) p_nil))) fun u2 =>
  (rs_ob fun w3 hw3 =>
  (rs_ob fun w4 hw4 =>
  (rs_ob fun v5 hv5 =>
  (rs_ob fun v6 hv6 =>
  (rs_ret (p_fn (RG.opt (tp_chaser_goes_u _ _ _) hv6) (p_cons (p_fn (RG.opt (tp_Times_init _) hv5) (p_cons (p_var rfl) p_nil)) (p_cons (p_co (dc_I _ _ hw3) (p_var rfl)) (p_cons (p_co (dc_I _ _ hw4) (p_var rfl)) p_nil))))))))))))
def t_Times_worst (x_self : T_Times) (x_chaser : Int) (x_thief : Int) : R D := TF.run' ((obind (opt (t_Net_ways (x_self.1) (x_thief))) fun v1 =>
  (obind (tcomp v1 (fun y2 => (some (!(memL (x_chaser, y2) (List.map Prod.fst x_self.2.1))))) (fun y2 => (some y2))) fun v3 =>
  (tlet v3 fun x_ways =>
  (if (decide ((0 : Int) < (List.length x_ways : Int))) = true then TF.up ((obind (L2.atI x_ways (0 : Int)) fun v4 =>
  .rt (D.int v4))) else (obind (opt (t_Net_ways (x_self.1) (x_thief))) fun v5 =>
  (obind (tcomp v5 (fun y6 => (some true)) (fun y6 => ((getM x_self.2.1 (x_chaser, y6)).bind fun v7 => (some (((0 : Int) - v7), y6))))) fun v8 =>
  (obind (minG [((eL (e2 D.int D.int)) v8)]) fun v9 =>
  (obind (idxD v9 (D.int (1 : Int))) fun v10 =>
  (obind (immO v10) fun v11 =>
  .rt v10))))))))) : TF Unit Empty D)
theorem tp_Times_worst (x_self : T_Times) (x_chaser : Int) (x_thief : Int) : RG eD (f_Times_worst [e_Times x_self, D.int x_chaser, D.int x_thief]) (t_Times_worst x_self x_chaser x_thief) := by
  unfold f_Times_worst t_Times_worst g_Times_worst
  exact rf_run' ((rs_ob fun v1 hv1 =>
  (rs_ob fun v3 hv3 =>
  (rs_setF (eL D.int) (p_top ((it_L im_int) _) (p_comp D.int (e := D.int) hv3 (i_it (w_T _) (p_meth (RG.opt (tp_Net_ways _ _) hv1) (in_Net_ways _) (p_fld (fl_Times_net _) (p_var rfl)) (p_cons (p_var rfl) p_nil))) (fun y2 w h => by cases h; exact ⟨_, rfl, (q_b (p_op (nin_of (o_inB (o_inMt (ev := D.int) (kt_2 k_int k_int) ((x_chaser, y2)) (x_self.2.1)))) (p_tup (p_cons (p_var rfl) (p_cons (p_var rfl) p_nil)) rfl) (p_fld (fl_Times_before _) (p_var rfl)))), (fun w h => by cases h; exact (p_var rfl))⟩))) fun x_ways =>
  (rs_ifX (q_b (p_op (o_gt _ _) (p_call (o_lenL _) (p_cons (p_var rfl) p_nil)) p_c)) (rs_ob fun v4 hv4 =>
  (rs_ret (p_co ((co_D D.int) v4) (p_imm (im_int _) (p_op (o_ixL hv4) (p_var rfl) p_c))))) (rs_ob fun v5 hv5 =>
  (rs_ob fun v8 hv8 =>
  (rs_ob fun v9 hv9 =>
  (rs_ob fun v10 hv10 =>
  (rs_ob fun v11 hv11 =>
  (rs_ret (p_imm (immO_some hv11) (p_op hv10 (p_call hv9 (p_coL ((co_D (eL (e2 D.int D.int))) v8) (p_cons (p_comp D.int (e := (e2 D.int D.int)) hv8 (i_it (w_T _) (p_meth (RG.opt (tp_Net_ways _ _) hv5) (in_Net_ways _) (p_fld (fl_Times_net _) (p_var rfl)) (p_cons (p_var rfl) p_nil))) (fun y6 w h => by cases h; exact ⟨_, rfl, rfl, (fun w h => by obtain ⟨v7, hv7, h⟩ := ob h; cases h; exact (p_tup (p_cons (p_op (o_sub _ _) p_c (p_op (o_ixMt (kt_2 k_int k_int) hv7) (p_fld (fl_Times_before _) (p_var rfl)) (p_tup (p_cons (p_var rfl) (p_cons (p_var rfl) p_nil)) rfl))) (p_cons (p_var rfl) p_nil)) rfl))⟩)) p_nil))) (p_co ((co_D D.int) (1 : Int)) p_c))))))))))))))
def t_thief_goes_u (x_times : T_Times) (x_chaser : Int) (x_thief : Int) : R D := TF.run' ((obind (if (decide (x_chaser = x_thief)) = true then (some (D.int x_thief)) else (opt (t_Times_worst (x_times) (x_chaser) (x_thief)))) fun v2 =>
  .rt v2) : TF Unit Empty D)
theorem tp_thief_goes_u (x_times : T_Times) (x_chaser : Int) (x_thief : Int) : RG eD (f_thief_goes_u [e_Times x_times, D.int x_chaser, D.int x_thief]) (t_thief_goes_u x_times x_chaser x_thief) := by
  unfold f_thief_goes_u t_thief_goes_u g_thief_goes_u
  exact rf_run' ((rs_ob fun v2 hv2 =>
  (rs_ret (p_ifO (e := eD) hv2 (q_b (p_op (o_eq fit_int ly_int _ _) (p_var rfl) (p_var rfl))) (fun w h => by cases h; exact (p_co ((co_D D.int) x_thief) (p_imm (im_int _) (p_var rfl)))) (fun v1 hv1 => (p_meth (RG.opt (tp_Times_worst _ _ _) hv1) (in_Times_worst _) (p_var rfl) (p_cons (p_var rfl) (p_cons (p_var rfl) p_nil))))))))
def t_thief_goes (x_net : T_Net) (x_chaser : D) (x_thief : D) : R D := TF.run' ((rbind (t_check_place (x_net) (x_chaser)) fun u1 =>
  (rbind (t_check_place (x_net) (x_thief)) fun u2 =>
  (obind (asI x_chaser) fun w3 =>
  (obind (asI x_thief) fun w4 =>
  (obind (opt (t_Times_init (x_net))) fun v5 =>
  (obind (opt (t_thief_goes_u (v5) (w3) (w4))) fun v6 =>
  .rt v6)))))) : TF Unit Empty D)
theorem tp_thief_goes (x_net : T_Net) (x_chaser : D) (x_thief : D) : RG eD (f_thief_goes [e_Net x_net, eD x_chaser, eD x_thief]) (t_thief_goes x_net x_chaser x_thief) := by
  unfold f_thief_goes t_thief_goes g_thief_goes
  exact rf_run' ((rs_drop (rg_fn (tp_check_place _ _) (p_cons (p_var rfl) (p_cons (p_var rfl) p_nil))) fun u1 =>
  (rs_drop (rg_fn (tp_check_place _ _) (p_cons (p_var rfl) (p_cons (p_var rfl) p_nil))) fun u2 =>
  (rs_ob fun w3 hw3 =>
  (rs_ob fun w4 hw4 =>
  (rs_ob fun v5 hv5 =>
  (rs_ob fun v6 hv6 =>
  (rs_ret (p_fn (RG.opt (tp_thief_goes_u _ _ _) hv6) (p_cons (p_fn (RG.opt (tp_Times_init _) hv5) (p_cons (p_var rfl) p_nil)) (p_cons (p_co (dc_I _ _ hw3) (p_var rfl)) (p_cons (p_co (dc_I _ _ hw4) (p_var rfl)) p_nil))))))))))))
def t_law_behind_u (x_times : (List (List Int))) (x_ways : (List (List Int))) (x_there : Int) (x_t : Int) : R Int := TF.run' ((obind (if (decide (x_there = x_t)) = true then (some (0 : Int)) else ((L2.atI x_ways x_t).bind fun v1 => ((tcomp v1 (fun y2 => (some true)) (fun y2 => ((L2.atI x_times x_there).bind fun v3 => (L2.atI v3 y2)))).bind fun v5 => (maxI v5)))) fun v7 =>
  .rt v7) : TF Unit Empty Int)
theorem tp_law_behind_u (x_times : (List (List Int))) (x_ways : (List (List Int))) (x_there : Int) (x_t : Int) : RG D.int (f_law_behind_u [(eL (eL D.int)) x_times, (eL (eL D.int)) x_ways, D.int x_there, D.int x_t]) (t_law_behind_u x_times x_ways x_there x_t) := by
  unfold f_law_behind_u t_law_behind_u g_law_behind_u
  exact rf_run' ((rs_ob fun v7 hv7 =>
  (rs_ret (p_ifO (e := D.int) hv7 (q_b (p_op (o_eq fit_int ly_int _ _) (p_var rfl) (p_var rfl))) (fun w h => by cases h; exact (p_imm (im_int _) p_c)) (fun v6 h => by obtain ⟨v1, hv1, h⟩ := ob h; obtain ⟨v5, hv5, h⟩ := ob h; have hv6 := h; exact (p_imm (im_int _) (p_call (o_maxIL hv6) (p_cons (p_comp D.int (e := D.int) hv5 (i_it (w_L _) (p_op (o_ixL hv1) (p_var rfl) (p_var rfl))) (fun y2 w h => by cases h; exact ⟨_, rfl, rfl, (fun v4 h => by obtain ⟨v3, hv3, h⟩ := ob h; have hv4 := h; exact (p_op (o_ixL hv4) (p_op (o_ixL hv3) (p_var rfl) (p_var rfl)) (p_var rfl)))⟩)) p_nil))))))))
def t_law_chaser_u (x_times : (List (List Int))) (x_ways : (List (List Int))) (x_c : Int) (x_t : Int) : R Int := TF.run' ((obind (L2.atI x_ways x_c) fun v1 =>
  (if (decide (x_t ∈ v1)) = true then TF.up (.rt x_t) else (obind (L2.atI x_times x_c) fun v2 =>
  (obind (L2.atI v2 x_t) fun v3 =>
  (if (decide (v3 = (1000 : Int))) = true then TF.up (.rt x_c) else (obind (L2.atI x_ways x_c) fun v4 =>
  (obind (tcomp v4 (fun y5 => (some true)) (fun y5 => (opt (t_law_behind_u (x_times) (x_ways) (y5) (x_t))))) fun v7 =>
  (tlet v7 fun x_costs =>
  (obind (L2.atI x_ways x_c) fun v8 =>
  (obind (minI x_costs) fun v9 =>
  (obind (indexO x_costs v9) fun v10 =>
  (obind (L2.atI v8 v10) fun v11 =>
  .rt v11)))))))))))) : TF Unit Empty Int)
theorem tp_law_chaser_u (x_times : (List (List Int))) (x_ways : (List (List Int))) (x_c : Int) (x_t : Int) : RG D.int (f_law_chaser_u [(eL (eL D.int)) x_times, (eL (eL D.int)) x_ways, D.int x_c, D.int x_t]) (t_law_chaser_u x_times x_ways x_c x_t) := by
  unfold f_law_chaser_u t_law_chaser_u g_law_chaser_u
  exact rf_run' ((rs_ob fun v1 hv1 =>
  (rs_ifX (q_b (p_op (o_inL fit_int ly_int (x_t) (v1)) (p_var rfl) (p_op (o_ixL hv1) (p_var rfl) (p_var rfl)))) (rs_retSc (co_id x_t) (im_int _) rfl) (rs_ob fun v2 hv2 =>
  (rs_ob fun v3 hv3 =>
  (rs_ifX (q_b (p_op (o_eq fit_int ly_int _ _) (p_op (o_ixL hv3) (p_op (o_ixL hv2) (p_var rfl) (p_var rfl)) (p_var rfl)) p_c)) (rs_retSc (co_id x_c) (im_int _) rfl) (rs_ob fun v4 hv4 =>
  (rs_ob fun v7 hv7 =>
  (rs_setF (eL D.int) (p_comp D.int (e := D.int) hv7 (i_it (w_L _) (p_op (o_ixL hv4) (p_var rfl) (p_var rfl))) (fun y5 w h => by cases h; exact ⟨_, rfl, rfl, (fun v6 hv6 => (p_fn (RG.opt (tp_law_behind_u _ _ _ _) hv6) (p_cons (p_var rfl) (p_cons (p_var rfl) (p_cons (p_var rfl) (p_cons (p_var rfl) p_nil))))))⟩)) fun x_costs =>
  (rs_ob fun v8 hv8 =>
  (rs_ob fun v9 hv9 =>
  (rs_ob fun v10 hv10 =>
  (rs_ob fun v11 hv11 =>
  (rs_ret (p_imm (im_int _) (p_op (o_ixL hv11) (p_op (o_ixL hv8) (p_var rfl) (p_var rfl)) (p_index hv10 (p_var rfl) (p_call (o_minIL hv9) (p_cons (p_var rfl) p_nil)))))))))))))))))))
def t_law_thief_u (x_times : (List (List Int))) (x_ways : (List (List Int))) (x_c : Int) (x_t : Int) : R Int := TF.run' ((if (decide (x_c = x_t)) = true then TF.up (.rt x_t) else (obind (L2.atI x_ways x_t) fun v1 =>
  (obind (tcomp v1 (fun y2 => (some true)) (fun y2 => ((L2.atI x_times x_c).bind fun v3 => (L2.atI v3 y2)))) fun v5 =>
  (tlet v5 fun x_costs =>
  (obind (L2.atI x_ways x_t) fun v6 =>
  (obind (maxI x_costs) fun v7 =>
  (obind (indexO x_costs v7) fun v8 =>
  (obind (L2.atI v6 v8) fun v9 =>
  .rt v9)))))))) : TF Unit Empty Int)
theorem tp_law_thief_u (x_times : (List (List Int))) (x_ways : (List (List Int))) (x_c : Int) (x_t : Int) : RG D.int (f_law_thief_u [(eL (eL D.int)) x_times, (eL (eL D.int)) x_ways, D.int x_c, D.int x_t]) (t_law_thief_u x_times x_ways x_c x_t) := by
  unfold f_law_thief_u t_law_thief_u g_law_thief_u
  exact rf_run' ((rs_ifX (q_b (p_op (o_eq fit_int ly_int _ _) (p_var rfl) (p_var rfl))) (rs_retSc (co_id x_t) (im_int _) rfl) (rs_ob fun v1 hv1 =>
  (rs_ob fun v5 hv5 =>
  (rs_setF (eL D.int) (p_top ((it_L im_int) _) (p_comp D.int (e := D.int) hv5 (i_it (w_L _) (p_op (o_ixL hv1) (p_var rfl) (p_var rfl))) (fun y2 w h => by cases h; exact ⟨_, rfl, rfl, (fun v4 h => by obtain ⟨v3, hv3, h⟩ := ob h; have hv4 := h; exact (p_op (o_ixL hv4) (p_op (o_ixL hv3) (p_var rfl) (p_var rfl)) (p_var rfl)))⟩))) fun x_costs =>
  (rs_ob fun v6 hv6 =>
  (rs_ob fun v7 hv7 =>
  (rs_ob fun v8 hv8 =>
  (rs_ob fun v9 hv9 =>
  (rs_ret (p_imm (im_int _) (p_op (o_ixL hv9) (p_op (o_ixL hv6) (p_var rfl) (p_var rfl)) (p_index hv8 (p_var rfl) (p_call (o_maxIL hv7) (p_cons (p_var rfl) p_nil)))))))))))))))
def t_law_refused_u (x_call : Int) (x_net : T_Net) (x_chaser : D) (x_thief : D) : R Bool := TF.run' ((ttry ((if (decide (x_call = (0 : Int))) = true then (rbind (t_chaser_goes (x_net) (x_chaser) (x_thief)) fun u1 => .nx ()) else (rbind (t_thief_goes (x_net) (x_chaser) (x_thief)) fun u2 => .nx ()))) (tpickC [("BadPlace", true)] (.rt true) tpickN)).bind fun _ : Unit => .rt false : TF Unit Empty Bool)
theorem tp_law_refused_u (x_call : Int) (x_net : T_Net) (x_chaser : D) (x_thief : D) : RG D.bl (f_law_refused_u [D.int x_call, e_Net x_net, eD x_chaser, eD x_thief]) (t_law_refused_u x_call x_net x_chaser x_thief) := by
  unfold f_law_refused_u t_law_refused_u g_law_refused_u
  exact rf_run' ((rs_try1 (rx_if (q_b (p_op (o_eq fit_int ly_int _ _) (p_var rfl) p_c)) (rx_last (rx_drop (rg_fn (tp_chaser_goes _ _ _) (p_cons (p_var rfl) (p_cons (p_var rfl) (p_cons (p_var rfl) p_nil)))) fun u1 => rx_nil)) (rx_last (rx_drop (rg_fn (tp_thief_goes _ _ _) (p_cons (p_var rfl) (p_cons (p_var rfl) (p_cons (p_var rfl) p_nil)))) fun u2 => rx_nil))) (pick_cons (rs_ret (p_imm (im_bl _) p_c)) pick_nil) (rs_ret (p_imm (im_bl _) p_c))))
def t_law (x_script : (List Int)) : R Bool := TF.run' ((obind (opt (t_law_draws_u (x_script) ((50 : Int)))) fun v1 =>
  (tlet v1 fun x_draws =>
  (obind (rgO1 (3 : Int)) fun v2 =>
  ((tfor v2 () (fun s4 y3 =>
  (obind (L2.atI [(4 : Int), (8 : Int), (6 : Int)] y3) fun v5 =>
  (obind (opt (t_law_net_u (x_draws) (((13 : Int) * y3)) (v5))) fun v6 =>
  (tlet v6 fun p7 =>
  (obind (opt (t_Net_init (p7.1) (p7.2))) fun v8 =>
  (obind (opt (t_law_ways_u (p7.1) (p7.2))) fun v9 =>
  (tlet v8 fun p10 =>
  (tlet v9 fun p11 =>
  (obind (opt (t_law_times_u (p7.1) (p11))) fun v12 =>
  (tlet v12 fun x_times =>
  (obind (rgO1 p7.1) fun v13 =>
  ((tfor v13 () (fun s15 y14 =>
  (obind (rgO1 p7.1) fun v16 =>
  ((tfor v16 () (fun s18 y17 =>
  (obind (opt (t_chaser_goes (p10) ((D.int y14)) ((D.int y17)))) fun v19 =>
  (obind (opt (t_thief_goes (p10) ((D.int y14)) ((D.int y17)))) fun v20 =>
  (tlet v19 fun p21 =>
  (tlet v20 fun p22 =>
  (obind (opt (t_law_chaser_u (x_times) (p11) (y14) (y17))) fun v23 =>
  (obind ((neD p21 (D.int v23)).bind asB) fun v24 =>
  (obind (orO v24 ((opt (t_law_thief_u (x_times) (p11) (y14) (y17))).bind fun v25 => (((neD p22 (D.int v25)).bind asB).bind fun v26 => (orO v26 ((isO p21 "bool").bind fun v27 => (orO v27 (isO p22 "bool"))))))) fun v31 =>
  (if v31 = true then .rt false else .nx ()))))))))) : TF _ Unit _).bind fun s18 =>
  .nx ()))) : TF _ Unit _).bind fun s15 =>
  (obind (immTopO ((eL eD) [(D.int (-(1 : Int))), (D.int p7.1), (D.bl true), (eN ()), (D.str ("0" : Str)), ((e1 D.int) (0 : Int))])) fun v32 =>
  ((tfor [(D.int (-(1 : Int))), (D.int p7.1), (D.bl true), (eN ()), (D.str ("0" : Str)), ((e1 D.int) (0 : Int))] () (fun s34 y33 =>
  (obind (rgO1 (2 : Int)) fun v35 =>
  ((tfor v35 () (fun s37 y36 =>
  (obind (opt (t_law_refused_u (y36) (p10) (y33) ((D.int (0 : Int))))) fun v38 =>
  (obind (orO (!v38) ((opt (t_law_refused_u (y36) (p10) ((D.int (0 : Int))) (y33))).bind fun v39 => (some (!v39)))) fun v40 =>
  (if v40 = true then .rt false else .nx ())))) : TF _ Unit _).bind fun s37 =>
  .nx ()))) : TF _ Unit _).bind fun s34 =>
  .nx ())))))))))))))) : TF _ Unit _).bind fun s4 =>
  .rt true)))) : TF Unit Empty Bool)
theorem tp_law (x_script : (List Int)) : RG D.bl (f_law [(eZ D.int) x_script]) (t_law x_script) := by
  unfold f_law t_law g_law
  exact rf_run' ((rs_ob fun v1 hv1 =>
  (rs_setF (eL D.int) (p_fn (RG.opt (tp_law_draws_u _ _) hv1) (p_cons (p_var rfl) (p_cons p_c p_nil))) fun x_draws =>
  (rs_ob fun v2 hv2 =>
  (rs_forF (fun s4 : Unit => [.un, .ow ((eL D.int) (x_draws)), .un, .un, .un, .un, .un, .un, .un, .un, .un, .un, .un, .un]) D.int rfl (i_rng (o_rg1 hv2) (p_cons p_c p_nil)) (fun s4 y3 => rsp_ok rfl (rs_ob fun v5 hv5 =>
  (rs_ob fun v6 hv6 =>
  (rs_putF (e2 D.int (eT (e2 D.int D.int))) (p_fn (RG.opt (tp_law_net_u _ _ _) hv6) (p_cons (p_var rfl) (p_cons (p_op (o_mulL _ (by decide)) p_c (p_var rfl)) (p_cons (p_op (o_ixL hv5) (p_lst (p_cons p_c (p_cons p_c (p_cons p_c p_nil))) rfl) (p_var rfl)) p_nil)))) (fun _ => rfl) fun p7 =>
  (rs_ob fun v8 hv8 =>
  (rs_ob fun v9 hv9 =>
  (rs_pars2 e_Net (eL (eL D.int)) (co_id v8) (co_id v9) (p_cons (p_frz (fz_Net _) (p_fn (RG.opt (tp_Net_init _ _) hv8) (p_cons (p_var rfl) (p_cons (p_var rfl) p_nil)))) (p_cons (p_fn (RG.opt (tp_law_ways_u _ _) hv9) (p_cons (p_var rfl) (p_cons (p_var rfl) p_nil))) p_nil)) fun p10 p11 =>
  (rs_ob fun v12 hv12 =>
  (rs_setF (eL (eL D.int)) (p_fn (RG.opt (tp_law_times_u _ _) hv12) (p_cons (p_var rfl) (p_cons (p_var rfl) p_nil))) fun x_times =>
  (rs_ob fun v13 hv13 =>
  (rs_forF (fun s15 : Unit => [.un, .ow ((eL D.int) (x_draws)), .un, .ow ((eL (eL D.int)) (x_times)), .un, .un, .sh (D.int (p7.1)), .un, .ow (e_Net (p10)), .ow ((eL (eL D.int)) (p11)), .un, .un, .un, .un]) D.int rfl (i_rng (o_rg1 hv13) (p_cons (p_var rfl) p_nil)) (fun s15 y14 => rsp_ok rfl (rs_last (rs_ob fun v16 hv16 =>
  (rs_forF (fun s18 : Unit => [.un, .ow ((eL D.int) (x_draws)), .un, .ow ((eL (eL D.int)) (x_times)), .sh (D.int (y14)), .un, .sh (D.int (p7.1)), .un, .ow (e_Net (p10)), .ow ((eL (eL D.int)) (p11)), .un, .un, .un, .un]) D.int rfl (i_rng (o_rg1 hv16) (p_cons (p_var rfl) p_nil)) (fun s18 y17 => rsp_ok rfl (rs_ob fun v19 hv19 =>
  (rs_ob fun v20 hv20 =>
  (rs_pars2 eD eD (co_id v19) (co_id v20) (p_cons (p_fn (RG.opt (tp_chaser_goes _ _ _) hv19) (p_cons (p_var rfl) (p_cons (p_co ((co_D D.int) y14) (p_var rfl)) (p_cons (p_co ((co_D D.int) y17) (p_var rfl)) p_nil)))) (p_cons (p_fn (RG.opt (tp_thief_goes _ _ _) hv20) (p_cons (p_var rfl) (p_cons (p_co ((co_D D.int) y14) (p_var rfl)) (p_cons (p_co ((co_D D.int) y17) (p_var rfl)) p_nil)))) p_nil)) fun p21 p22 =>
  (rs_ob fun v23 hv23 =>
  (rs_ob fun v24 hv24 =>
  (rs_ob fun v31 hv31 =>
  (rs_if (q_orO hv31 (q_b (p_op (dyB hv24) (p_var rfl) (p_co ((co_D D.int) v23) (p_fn (RG.opt (tp_law_chaser_u _ _ _ _) hv23) (p_cons (p_var rfl) (p_cons (p_var rfl) (p_cons (p_var rfl) (p_cons (p_var rfl) p_nil)))))))) (fun v30 h => by obtain ⟨v25, hv25, h⟩ := ob h; obtain ⟨v26, hv26, h⟩ := ob h; have hv30 := h; exact (q_orO hv30 (q_b (p_op (dyB hv26) (p_var rfl) (p_co ((co_D D.int) v25) (p_fn (RG.opt (tp_law_thief_u _ _ _ _) hv25) (p_cons (p_var rfl) (p_cons (p_var rfl) (p_cons (p_var rfl) (p_cons (p_var rfl) p_nil)))))))) (fun v29 h => by obtain ⟨v27, hv27, h⟩ := ob h; have hv29 := h; exact (q_orO hv29 (q_b (p_call (o_isi hv27) (p_cons (p_var rfl) (p_cons p_c p_nil)))) (fun v28 hv28 => (q_b (p_call (o_isi hv28) (p_cons (p_var rfl) (p_cons p_c p_nil)))))))))) (rs_ret (p_imm (im_bl _) p_c)) (rs_nil rfl))))))))) fun s18 =>
  (rs_nil rfl))))) fun s15 =>
  (rs_last (rs_ob fun v32 hv32 =>
  (rs_forF (fun s34 : Unit => [.un, .ow ((eL D.int) (x_draws)), .un, .un, .un, .un, .sh (D.int (p7.1)), .un, .ow (e_Net (p10)), .un, .un, .un, .un, .un]) eD rfl (i_it (w_L _) (p_top (immTopO_some hv32) (p_lst (p_cons (p_co ((co_D D.int) (-(1 : Int))) (p_neg p_c)) (p_cons (p_co ((co_D D.int) p7.1) (p_var rfl)) (p_cons (p_co ((co_D D.bl) true) p_c) (p_cons (p_co ((co_D eN) ()) p_c) (p_cons (p_co ((co_D D.str) ("0" : Str)) p_c) (p_cons (p_co ((co_D (e1 D.int)) (0 : Int)) (p_tup (p_cons p_c p_nil) rfl)) p_nil)))))) rfl))) (fun s34 y33 => rsp_ok rfl (rs_last (rs_ob fun v35 hv35 =>
  (rs_forF (fun s37 : Unit => [.un, .ow ((eL D.int) (x_draws)), .un, .un, .un, .sh (eD (y33)), .sh (D.int (p7.1)), .un, .ow (e_Net (p10)), .un, .un, .un, .un, .un]) D.int rfl (i_rng (o_rg1 hv35) (p_cons p_c p_nil)) (fun s37 y36 => rsp_ok rfl (rs_ob fun v38 hv38 =>
  (rs_ob fun v40 hv40 =>
  (rs_if (q_orO hv40 (q_not (q_b (p_fn (RG.opt (tp_law_refused_u _ _ _ _) hv38) (p_cons (p_var rfl) (p_cons (p_var rfl) (p_cons (p_var rfl) (p_cons (p_co ((co_D D.int) (0 : Int)) p_c) p_nil))))))) (fun w h => by obtain ⟨v39, hv39, h⟩ := ob h; cases h; exact (q_not (q_b (p_fn (RG.opt (tp_law_refused_u _ _ _ _) hv39) (p_cons (p_var rfl) (p_cons (p_var rfl) (p_cons (p_co ((co_D D.int) (0 : Int)) p_c) (p_cons (p_var rfl) p_nil))))))))) (rs_ret (p_imm (im_bl _) p_c)) (rs_nil rfl))))) fun s37 =>
  (rs_nil rfl))))) fun s34 =>
  (rs_nil rfl))))))))))))))) fun s4 =>
  (rs_ret (p_imm (im_bl _) p_c)))))))
end LW
set_option Elab.async false
set_option linter.all false
set_option maxRecDepth 100000
set_option maxHeartbeats 2000000
namespace TL
open PySem PySem.Spec PyProof.Rows L2 DL
/-! ## plain facts about the words of typed defs -/
variable {α β γ δ σ τ ρ σ1 : Type}
@[simp] theorem obS (x : α) (f : α → Option β) : (some x).bind f = f x := nr rfl
theorem szl : sizeLine = 16777216 := rfl
theorem appO_ok {xs : List α} {x : α} (h : xs.length < 16777216) : appO xs x = some (xs ++ [x]) := if_pos h
theorem extO_ok {xs ys : List α} (h : xs.length + ys.length ≤ 16777216) : extO xs ys = some (xs ++ ys) := if_pos h
theorem sm62 {j : Int} (h : -1000000000 ≤ j) (h2 : j ≤ 1000000000) : small62 j = true := by
  unfold small62
  simp only [Bool.and_eq_true, decide_eq_true_eq]
  have e : (2 : Int) ^ 62 = 4611686018427387904 := by decide
  rw [e]
  omega
theorem rgO1_ok {j : Int} (h : -1000000000 ≤ j) (h2 : j ≤ 1000000000) : rgO1 j = some (rgL 0 j.toNat 1) := by
  unfold rgO1; rw [if_pos (sm62 h h2)]
theorem rgO2_ok {i j : Int} (h : -1000000000 ≤ i) (h2 : i ≤ 1000000000) (h3 : -1000000000 ≤ j) (h4 : j ≤ 1000000000) : rgO2 i j = some (rgL i (j - i).toNat 1) := by
  unfold rgO2; rw [if_pos ⟨sm62 h h2, sm62 h3 h4⟩]
theorem rgO3_ok {i j : Int} (h : -1000000000 ≤ i) (h2 : i ≤ 1000000000) (h3 : -1000000000 ≤ j) (h4 : j ≤ 1000000000) : rgO3 i j 2 = some (rgL i ((j - i + 1) / 2).toNat 2) := by
  unfold rgO3; rw [if_pos ⟨sm62 h h2, sm62 h3 h4⟩]; rfl
theorem okRg_ok {i j : Int} (h : -1000000000 ≤ i) (h2 : i ≤ 1000000000) (h3 : -1000000000 ≤ j) (h4 : j ≤ 1000000000) (h5 : j - i ≤ 16777216) : okRg i j = true := by
  unfold okRg
  simp only [Bool.and_eq_true, decide_eq_true_eq]
  have e : (2 : Int) ^ 62 = 4611686018427387904 := by decide
  have e2 : (2 : Nat) ^ 24 = 16777216 := by decide
  rw [e, e2]
  omega
theorem lrgO1_ok {j : Int} (h : -1000000 ≤ j) (h2 : j ≤ 1000000) : lrgO1 j = some (rgL 0 j.toNat 1) := by
  unfold lrgO1; rw [if_pos (okRg_ok (by omega) (by omega) (by omega) (by omega) (by omega))]
theorem lrgO2_ok {i j : Int} (h : -1000000 ≤ i) (h2 : i ≤ 1000000) (h3 : -1000000 ≤ j) (h4 : j ≤ 1000000) : lrgO2 i j = some (rgL i (j - i).toNat 1) := by
  unfold lrgO2; rw [if_pos (okRg_ok (by omega) (by omega) (by omega) (by omega) (by omega))]
@[simp] theorem rgL_len (a : Int) (n : Nat) (c : Int) : (rgL a n c).length = n := by simp [rgL]
theorem mem_rgL {a c x : Int} {n : Nat} : x ∈ rgL a n c ↔ ∃ k : Nat, k < n ∧ x = a + k * c := by
  simp [rgL, List.mem_map, List.mem_range, eq_comm]
theorem mem_rg1 {a x : Int} {n : Nat} : x ∈ rgL a n 1 ↔ a ≤ x ∧ x < a + n := by
  rw [mem_rgL]
  constructor
  · rintro ⟨k, h, rfl⟩; omega
  · intro h; exact ⟨(x - a).toNat, by omega, by omega⟩
theorem rg0 (n : Nat) : rgL 0 n 1 = (List.range n).map fun (k : Nat) => (k : Int) := by
  unfold rgL; apply List.map_congr_left; intro k _; omega
theorem rgL_get {a c : Int} {n k : Nat} (h : k < n) : (rgL a n c)[k]? = some (a + k * c) := by
  simp [rgL, h]
/-! ### places -/
theorem ixN_ok {n : Nat} {i : Int} (h : 0 ≤ i) (h2 : i < n) : L2.ixN n i = some i.toNat := by
  unfold L2.ixN; rw [if_pos h, if_pos h2]
theorem atI_ok {xs : List α} {i : Int} (d : α) (h : 0 ≤ i) (h2 : i < xs.length) : L2.atI xs i = some (xs.getD i.toNat d) := by
  unfold L2.atI
  rw [ixN_ok h h2]
  have : i.toNat < xs.length := by omega
  simp [List.getD, this]
theorem atI_last {xs : List α} (d : α) (h : 0 < xs.length) : L2.atI xs (-1) = some (xs.getD (xs.length - 1) d) := by
  unfold L2.atI L2.ixN
  rw [if_neg (by decide), if_pos (by omega)]
  have e : ((-1 : Int) + (xs.length : Int)).toNat = xs.length - 1 := by omega
  have : xs.length - 1 < xs.length := by omega
  simp [e, List.getD, this]
/-! ### parts -/
theorem cutL_to (xs : List α) {j : Int} (h : 0 ≤ j) : cutL xs none (some j) = xs.take j.toNat := by
  obtain ⟨n, rfl⟩ := Int.eq_ofNat_of_zero_le h
  unfold cutL
  rw [HT.sIx_none, HT.sIx_nat, List.drop_zero, Nat.sub_zero, Int.toNat_natCast]
  by_cases c : n ≤ xs.length
  · rw [Nat.min_eq_left c]
  · rw [Nat.min_eq_right (by omega), List.take_length, List.take_of_length_le (by omega)]
theorem cutL_from (xs : List α) {i : Int} (h : 0 ≤ i) : cutL xs (some i) none = xs.drop i.toNat := by
  obtain ⟨n, rfl⟩ := Int.eq_ofNat_of_zero_le h
  unfold cutL
  rw [HT.sIx_none, HT.sIx_nat, Int.toNat_natCast]
  by_cases c : n ≤ xs.length
  · rw [Nat.min_eq_left c, List.take_of_length_le (by simp)]
  · rw [Nat.min_eq_right (by omega)]; simp; omega
theorem cutL_mid (xs : List α) {i j : Int} (h : 0 ≤ i) (h2 : 0 ≤ j) : cutL xs (some i) (some j) = (xs.drop i.toNat).take (j.toNat - i.toNat) := by
  obtain ⟨n, rfl⟩ := Int.eq_ofNat_of_zero_le h
  obtain ⟨m, rfl⟩ := Int.eq_ofNat_of_zero_le h2
  unfold cutL
  rw [HT.sIx_nat, HT.sIx_nat, Int.toNat_natCast, Int.toNat_natCast]
  by_cases c : n ≤ xs.length
  · rw [Nat.min_eq_left c]
    by_cases c2 : m ≤ xs.length
    · rw [Nat.min_eq_left c2]
    · rw [Nat.min_eq_right (by omega), List.take_of_length_le (by simp), List.take_of_length_le (by simp; omega)]
  · rw [Nat.min_eq_right (by omega : xs.length ≤ n)]; simp; exact .inr (by omega)
theorem cutL_init (xs : List α) : cutL xs none (some (-1)) = xs.dropLast := by
  unfold cutL
  rw [HT.sIx_none]
  have e : HT.sIx xs.length xs.length (some (-1)) = ((-1 : Int) + (xs.length : Int)).toNat := by
    unfold HT.sIx; exact if_pos (by decide)
  rw [e, List.drop_zero, Nat.sub_zero, List.dropLast_eq_take]
  congr 1
  omega
theorem cut2_at {xs : List Int} {i : Int} (d : Int) (h : 0 ≤ i) (h2 : i + 1 < xs.length) : cutL xs (some i) (some (i + 2)) = [xs.getD i.toNat d, xs.getD (i + 1).toNat d] := by
  obtain ⟨n, rfl⟩ := Int.eq_ofNat_of_zero_le h
  rw [cutL_mid xs h (by omega)]
  have e : ((n : Int) + 2).toNat - (n : Int).toNat = 2 := by omega
  have e1 : (n : Int).toNat = n := by omega
  have e2 : ((n : Int) + 1).toNat = n + 1 := by omega
  rw [e, e1, e2]
  have h3 : n + 1 < xs.length := by omega
  rw [List.drop_eq_getElem_cons (by omega), List.take_succ_cons, List.drop_eq_getElem_cons h3, List.take_succ_cons]
  simp [List.getD, h3, (by omega : n < xs.length)]
/-! ### loops -/
def optT : Option ρ → TF τ Unit ρ
  | some r => .rt r
  | none => .nx ()
theorem tfor_fs {vs : List β} {b : Unit → β → TF Unit Unit ρ} (g : β → Option ρ) (h : ∀ y ∈ vs, b () y = optT (g y)) : (tfor vs () b : TF τ Unit ρ) = optT (vs.findSome? g) := by
  induction vs with
  | nil => rfl
  | cons v vs ih =>
    rw [tfor_cons, h v List.mem_cons_self, List.findSome?_cons]
    cases g v with
    | some r => rfl
    | none => exact ih fun y hy => h y (List.mem_cons_of_mem _ hy)
theorem tfor_fold {vs : List β} {b : σ → β → TF σ σ ρ} (f : σ → β → σ) (I : σ → Prop) (h : ∀ s, I s → ∀ y ∈ vs, b s y = .nx (f s y) ∧ I (f s y)) {s : σ} (h0 : I s) : (tfor vs s b : TF τ σ ρ) = .nx (vs.foldl f s) ∧ I (vs.foldl f s) := by
  induction vs generalizing s with
  | nil => exact ⟨rfl, h0⟩
  | cons v vs ih =>
    obtain ⟨e, i⟩ := h s h0 v List.mem_cons_self
    rw [tfor_cons, e, List.foldl_cons]
    exact ih (fun s hs y hy => h s hs y (List.mem_cons_of_mem _ hy)) i
theorem tfor_foldN {vs : List β} {b : σ → β → TF σ σ ρ} (f : σ → β → σ) (I : Nat → σ → Prop) (h : ∀ k s, I (k + 1) s → ∀ y ∈ vs, b s y = .nx (f s y) ∧ I k (f s y)) {s : σ} (h0 : I vs.length s) : (tfor vs s b : TF τ σ ρ) = .nx (vs.foldl f s) ∧ I 0 (vs.foldl f s) := by
  induction vs generalizing s with
  | nil => exact ⟨rfl, h0⟩
  | cons v vs ih =>
    obtain ⟨e, i⟩ := h vs.length s h0 v List.mem_cons_self
    rw [tfor_cons, e, List.foldl_cons]
    exact ih (fun k s hs y hy => h k s hs y (List.mem_cons_of_mem _ hy)) i
/-- a loop that keeps something, or answers well -/
def TFin (I : σ → Prop) (Q : ρ → Prop) : TF τ σ ρ → Prop
  | .nx s => I s
  | .rt r => Q r
  | _ => False
theorem tfor_inv {vs : List β} {b : σ → β → TF σ σ ρ} (I : Nat → σ → Prop) (Q : ρ → Prop) (h : ∀ k s, I (k + 1) s → ∀ y ∈ vs, TFin (I k) Q (b s y)) {s : σ} (h0 : I vs.length s) : TFin (τ := τ) (I 0) Q (tfor vs s b : TF τ σ ρ) := by
  induction vs generalizing s with
  | nil => exact h0
  | cons v vs ih =>
    have q := h vs.length s h0 v List.mem_cons_self
    rw [tfor_cons]
    revert q
    cases e : b s v with
    | nx s' => intro q; exact ih (fun k s hs y hy => h k s hs y (List.mem_cons_of_mem _ hy)) q
    | rt r => intro q; exact q
    | _ => intro q; exact q.elim
/-- a loop over 0, 1, .., n - 1 -/
theorem tfor_rg {n : Nat} {b : σ → Int → TF σ σ ρ} (I : Nat → σ → Prop) (Q : ρ → Prop) (h : ∀ k s, k < n → I k s → TFin (I (k + 1)) Q (b s (k : Int))) {s : σ} (h0 : I 0 s) : TFin (τ := τ) (I n) Q (tfor (rgL 0 n 1) s b : TF τ σ ρ) := by
  have go : ∀ (m j : Nat), j + m = n → ∀ s, I j s → TFin (τ := τ) (I n) Q (tfor ((List.range' j m).map fun (k : Nat) => (k : Int)) s b : TF τ σ ρ) := fun m => by
    induction m with
    | zero => intro j e s hs; have : j = n := by omega
              subst this; exact hs
    | succ m ih =>
      intro j e s hs
      rw [List.range'_succ, List.map_cons, tfor_cons]
      have q := h j s (by omega) hs
      revert q
      cases b s (j : Int) with
      | nx s' => intro q; exact ih (j + 1) (by omega) s' q
      | rt r => intro q; exact q
      | _ => intro q; exact q.elim
  rw [rg0, List.range_eq_range']
  exact go n 0 (by omega) s h0
theorem fin_ob {I : σ → Prop} {Q : ρ → Prop} {o : Option α} {k : α → TF τ σ ρ} (x : α) (h : o = some x) (t : TFin I Q (k x)) : TFin I Q (obind o k) := by subst h; exact t
theorem fin_bind {I : σ1 → Prop} {J : σ → Prop} {Q : ρ → Prop} {t : TF τ σ1 ρ} {k : σ1 → TF τ σ ρ} (h : TFin I Q t) (h2 : ∀ s, I s → TFin J Q (k s)) : TFin J Q (t.bind k) := by
  cases t with
  | nx s => exact h2 s h
  | rt r => exact h
  | _ => exact h.elim
theorem fin_up {J : σ → Prop} {Q : ρ → Prop} {t : TF τ Empty ρ} (h : TFin (fun _ => False) Q t) : TFin J Q (t.up : TF τ σ ρ) := by
  cases t with
  | nx s => cases s
  | rt r => exact h
  | _ => exact h.elim
theorem fin_run {Q : ρ → Prop} {t : TF Unit Empty ρ} (h : TFin (fun _ => False) Q t) : ∃ r, TF.run' t = .ok r ∧ Q r := by
  cases t with
  | nx s => cases s
  | rt r => exact ⟨r, rfl, h⟩
  | _ => exact h.elim
theorem fin_if {I : σ → Prop} {Q : ρ → Prop} {b : Bool} {t e : TF τ σ ρ} (h : b = true → TFin I Q t) (h2 : b = false → TFin I Q e) : TFin I Q (if b = true then t else e) := by
  cases b with
  | true => rw [if_pos rfl]; exact h rfl
  | false => rw [if_neg Bool.false_ne_true]; exact h2 rfl
/-! ### sorted -/
theorem leS_int (x y : Int) : leS (.int x) (.int y) = decide (x ≤ y) := congrFun (congrFun (PySem.W.dataLe_int (fun (i : Int) => i)) x) y
def isI (w : List Int) : List Int := isort (fun a b => decide (a ≤ b)) w
theorem sortO_int (w : List Int) : sortO D.int w = some (isI w) := by
  have ok : sortOk (w.map D.int) = true := by
    simp only [sortOk, Bool.and_eq_true]
    refine ⟨⟨⟨?_, ?_⟩, ?_⟩, ?_⟩
    · simp [plainAll_all, DL.plain]
    · simp only [sorty, Bool.or_eq_true]
      right
      simp [toPy]
    · simp [toPy, PySem.W.alike]
    · simp [toPy, PyData.depth]
  unfold sortO isI
  rw [if_pos ok]
  simp only [leS_int]
theorem isI_perm (w : List Int) : (isI w).Perm w := isort_perm w
theorem insD_sorted (a : Int) : ∀ l : List Int, l.Pairwise (· ≤ ·) → (insD (fun a b => decide (a ≤ b)) a l).Pairwise (· ≤ ·)
  | [], _ => by simp [insD]
  | b :: l, h => by
    obtain ⟨h1, h2⟩ := List.pairwise_cons.mp h
    unfold insD
    split
    · rename_i c
      have c : a ≤ b := by simpa using c
      exact List.pairwise_cons.mpr ⟨fun x hx => (List.mem_cons.mp hx).elim (fun e => e ▸ c) fun z => Int.le_trans c (h1 x z), h⟩
    · rename_i c
      have c : b ≤ a := by simp at c; omega
      refine List.pairwise_cons.mpr ⟨fun x hx => ?_, insD_sorted a l h2⟩
      have : ∀ l : List Int, x ∈ insD (fun a b => decide (a ≤ b)) a l → x = a ∨ x ∈ l := fun l => by
        induction l with
        | nil => intro h; simpa [insD] using h
        | cons d l ih =>
          unfold insD
          split
          · intro h; simpa using h
          · intro h
            rcases List.mem_cons.mp h with e | h
            · exact .inr (e ▸ List.mem_cons_self)
            · exact (ih h).imp id fun z => List.mem_cons_of_mem _ z
      rcases this l hx with rfl | z
      · exact c
      · exact h1 x z
theorem isI_sorted : ∀ w : List Int, (isI w).Pairwise (· ≤ ·)
  | [] => List.Pairwise.nil
  | a :: w => insD_sorted a _ (isI_sorted w)
theorem rgL_sorted (a : Int) (n : Nat) : (rgL a n 1).Pairwise (· ≤ ·) := by
  unfold rgL
  rw [List.pairwise_map]
  exact List.pairwise_lt_range.imp fun h => by omega
theorem isI_eq {w v : List Int} (hv : v.Pairwise (· ≤ ·)) : isI w = v ↔ w.Perm v := by
  constructor
  · intro h; subst h; exact (isI_perm w).symm
  · intro h
    exact List.Perm.eq_of_pairwise (fun a b _ _ h1 h2 => Int.le_antisymm h1 h2) (isI_sorted w) hv ((isI_perm w).trans h)
theorem isI_two (a b : Int) : isI [a, b] = [min a b, max a b] := by
  show insD (fun a b => decide (a ≤ b)) a [b] = _
  unfold insD
  by_cases c : a ≤ b
  · rw [if_pos (by simpa using c), Int.min_eq_left c, Int.max_eq_right c]
  · rw [if_neg (by simpa using c), Int.min_eq_right (by omega), Int.max_eq_left (by omega)]; rfl
theorem modO_ok {a b : Int} (h : 0 < b) : modO a b = some (a % b) := if_pos h
/-! ### all ints -/
theorem decAll_int : ∀ w : List Int, decAll asI (w.map D.int) = some w
  | [] => rfl
  | x :: w => by simp [decAll, asI, decAll_int w]
@[simp] theorem decT_int (w : List Int) : decT asI (eT D.int w) = some w := decAll_int w
end TL
set_option Elab.async false
set_option linter.all false
set_option maxRecDepth 100000
set_option maxHeartbeats 2000000
namespace LW
open PySem PySem.Spec PyProof.Rows L2 DL TL
def Nat16 (x : Int) : Prop := 0 ≤ x ∧ x < 65521
theorem nat16_app {l : List Int} {x : Int} (h : ∀ y ∈ l, Nat16 y) (hx : Nat16 x) : ∀ y ∈ l ++ [x], Nat16 y := fun y hy => by
  rcases List.mem_append.mp hy with hy | hy
  · exact h y hy
  · rw [List.mem_singleton.mp hy]; exact hx
theorem draws_ok (ns : List Int) (many : Int) (h0 : 0 ≤ many) (h1 : many ≤ 1000) : ∃ ds : List Int, t_law_draws_u ns many = .ok ds ∧ (ds.length : Int) = many ∧ ∀ x ∈ ds, Nat16 x := by
  unfold t_law_draws_u
  simp only [tlet_eq]
  have first := tfor_inv (τ := Unit) (ρ := List Int) (vs := cutL ns none (some (63 : Int))) (b := fun s2 y1 =>
      (if (decide ((1000000000000000000 : Int) ≤ (Int.natAbs y1 : Int))) = true then (obind (rgO1 (60 : Int)) fun v3 =>
  ((tfor v3 (s2.1, (Int.natAbs y1 : Int)) (fun s5 y4 =>
  (if (decide ((0 : Int) < s5.2)) = true then (obind (appO s5.1 (s5.2 % (1009 : Int))) fun x_draws =>
  .nx (x_draws, s5.2 / (1009 : Int))) else .nx (s5.1, s5.2))) : TF _ ((List Int) × Int) _).bind fun s5 =>
  .nx (s5.1, ((((s2.2 * (48271 : Int)) + (Int.natAbs y1 : Int)) + (11 : Int)) % (2147483647 : Int))))) else (obind (appO s2.1 ((((((((s2.2 * (48271 : Int)) + (Int.natAbs y1 : Int)) + (11 : Int)) % (2147483647 : Int)) * (16807 : Int)) + (5 : Int)) / (3 : Int)) % (65521 : Int))) fun x_draws =>
  .nx (x_draws, ((((s2.2 * (48271 : Int)) + (Int.natAbs y1 : Int)) + (11 : Int)) % (2147483647 : Int))))))
    (fun k s => s.1.length + 60 * k ≤ 4000 ∧ ∀ x ∈ s.1, Nat16 x) (fun _ => False) (fun k s hs y hy => by
      try dsimp only
      split
      · rw [rgO1_ok (by decide) (by decide)]
        simp only [obind_some]
        have inner := tfor_inv (τ := List Int × Int) (ρ := List Int) (vs := rgL 0 (60 : Int).toNat 1) (b := fun s5 y4 => (if (decide ((0 : Int) < s5.2)) = true then (obind (appO s5.1 (s5.2 % (1009 : Int))) fun x_draws => .nx (x_draws, s5.2 / (1009 : Int))) else .nx (s5.1, s5.2)))
          (fun k2 s5 => s5.1.length + k2 + 60 * k ≤ 4000 ∧ ∀ x ∈ s5.1, Nat16 x) (fun _ => False) (fun k2 s5 h5 y4 hy4 => by
            try dsimp only
            split
            · rw [appO_ok (by omega)]
              refine ⟨by simp; omega, nat16_app h5.2 ?_⟩
              have := Int.emod_nonneg s5.2 (b := 1009) (by decide)
              have := Int.emod_lt_of_pos s5.2 (b := 1009) (by decide)
              exact ⟨by omega, by omega⟩
            · exact ⟨by simp; omega, h5.2⟩) (s := (s.1, (Int.natAbs y : Int))) ⟨by rw [rgL_len]; have e : (60 : Int).toNat = 60 := rfl; rw [e]; simp; omega, hs.2⟩
        revert inner
        cases (tfor (rgL 0 (60 : Int).toNat 1) (s.1, (Int.natAbs y : Int)) (fun s5 y4 => (if (decide ((0 : Int) < s5.2)) = true then (obind (appO s5.1 (s5.2 % (1009 : Int))) fun x_draws => .nx (x_draws, s5.2 / (1009 : Int))) else .nx (s5.1, s5.2))) : TF (List Int × Int) ((List Int) × Int) (List Int)) with
        | nx s' => intro h; exact ⟨by have := h.1; simp; omega, h.2⟩
        | rt r => intro h; exact h.elim
        | _ => intro h; exact h.elim
      · rw [appO_ok (by omega)]
        refine ⟨by simp; omega, nat16_app hs.2 ?_⟩
        exact ⟨Int.emod_nonneg _ (by decide), Int.emod_lt_of_pos _ (by decide)⟩)
    (s := (([] : List Int), (7 : Int))) ⟨by
      have : (cutL ns none (some (63 : Int))).length ≤ 63 := by
        rw [cutL_to _ (by decide)]; rw [List.length_take]; have e : (63 : Int).toNat = 63 := rfl; omega
      simp; omega, by simp⟩
  revert first
  cases (tfor (cutL ns none (some (63 : Int))) (([] : List Int), (7 : Int)) (fun s2 y1 =>
      (if (decide ((1000000000000000000 : Int) ≤ (Int.natAbs y1 : Int))) = true then (obind (rgO1 (60 : Int)) fun v3 =>
  ((tfor v3 (s2.1, (Int.natAbs y1 : Int)) (fun s5 y4 =>
  (if (decide ((0 : Int) < s5.2)) = true then (obind (appO s5.1 (s5.2 % (1009 : Int))) fun x_draws =>
  .nx (x_draws, s5.2 / (1009 : Int))) else .nx (s5.1, s5.2))) : TF _ ((List Int) × Int) _).bind fun s5 =>
  .nx (s5.1, ((((s2.2 * (48271 : Int)) + (Int.natAbs y1 : Int)) + (11 : Int)) % (2147483647 : Int))))) else (obind (appO s2.1 ((((((((s2.2 * (48271 : Int)) + (Int.natAbs y1 : Int)) + (11 : Int)) % (2147483647 : Int)) * (16807 : Int)) + (5 : Int)) / (3 : Int)) % (65521 : Int))) fun x_draws =>
  .nx (x_draws, ((((s2.2 * (48271 : Int)) + (Int.natAbs y1 : Int)) + (11 : Int)) % (2147483647 : Int)))))) : TF Unit (List Int × Int) (List Int)) with
  | rt r => intro h; exact h.elim
  | bk s => intro h; exact h.elim
  | ct s => intro h; exact h.elim
  | ex c => intro h; exact h.elim
  | no => intro h; exact h.elim
  | nx s =>
    intro hs
    simp only [TF.bind_nx]
    rw [rgO1_ok (by omega) (by omega)]
    simp only [obind_some]
    have second := tfor_inv (τ := Unit) (ρ := List Int) (vs := rgL 0 many.toNat 1) (b := fun s8 y7 =>
  (if (decide ((List.length s8.1 : Int) < many)) = true then (obind (appO s8.1 ((((((s8.2 * (69621 : Int)) + y7) + (1 : Int)) % (2147483647 : Int)) / (7 : Int)) % (65521 : Int))) fun x_draws =>
  .nx (x_draws, ((((s8.2 * (69621 : Int)) + y7) + (1 : Int)) % (2147483647 : Int)))) else .nx (s8.1, s8.2)))
      (fun k s => s.1.length + k ≤ 6000 ∧ many ≤ (s.1.length : Int) + k ∧ ∀ x ∈ s.1, Nat16 x) (fun _ => False) (fun k s hs y hy => by
        try dsimp only
        split
        · rw [appO_ok (by omega)]
          refine ⟨by simp; omega, by simp; omega, nat16_app hs.2.2 ?_⟩
          exact ⟨Int.emod_nonneg _ (by decide), Int.emod_lt_of_pos _ (by decide)⟩
        · rename_i c
          have c : ¬ ((List.length s.1 : Int) < many) := by simpa using c
          exact ⟨by simp; omega, by simp; omega, hs.2.2⟩)
      (s := (s.1, s.2)) ⟨by rw [rgL_len]; have := hs.1; simp; omega, by rw [rgL_len]; simp; omega, hs.2⟩
    revert second
    cases (tfor (rgL 0 many.toNat 1) (s.1, s.2) (fun s8 y7 =>
  (if (decide ((List.length s8.1 : Int) < many)) = true then (obind (appO s8.1 ((((((s8.2 * (69621 : Int)) + y7) + (1 : Int)) % (2147483647 : Int)) / (7 : Int)) % (65521 : Int))) fun x_draws =>
  .nx (x_draws, ((((s8.2 * (69621 : Int)) + y7) + (1 : Int)) % (2147483647 : Int)))) else .nx (s8.1, s8.2))) : TF Unit (List Int × Int) (List Int)) with
    | rt r => intro h; exact h.elim
    | bk s => intro h; exact h.elim
    | ct s => intro h; exact h.elim
    | ex c => intro h; exact h.elim
    | no => intro h; exact h.elim
    | nx s =>
      intro hs
      refine ⟨s.1.take many.toNat, ?_, ?_, fun x hx => hs.2.2 x (List.mem_of_mem_take hx)⟩
      · simp only [TF.bind_nx]
        rw [cutL_to _ h0]
        rfl
      · have := hs.2.1
        rw [List.length_take]
        omega
end LW
namespace LW
open PySem PySem.Spec PyProof.Rows L2 DL TL
/-! ## nets from draws -/
def tri : Nat → Nat
  | 0 => 0
  | k + 1 => tri k + (k + 1)
theorem tri_mono : ∀ {a b : Nat}, a ≤ b → tri a ≤ tri b := fun {a b} h => by
  induction h with
  | refl => exact Nat.le_refl _
  | step _ ih => exact Nat.le_trans ih (Nat.le_add_right _ _)
def PIn (size : Int) (p : Int × Int) : Prop := 0 ≤ p.1 ∧ p.1 < p.2 ∧ p.2 < size
def ltP (a b : Int × Int) : Prop := a.1 < b.1 ∨ (a.1 = b.1 ∧ a.2 < b.2)
structure NetOk (size : Int) (ps : List (Int × Int)) : Prop where
  pin : ∀ p ∈ ps, PIn size p
  asc : ps.Pairwise ltP
  len : ps.length ≤ 56
theorem mem_ssort (ps : List (Int × Int)) (x : Int × Int) : x ∈ ssort ps ↔ x ∈ ps := by
  unfold ssort; rw [(isort_perm _).mem_iff, mem_dedupP]
theorem ssort_asc (ps : List (Int × Int)) : (ssort ps).Pairwise ltP := by
  have nd : (ssort ps).Nodup := by unfold ssort; exact (isort_perm _).nodup_iff.mpr (nodup_dedupP ps)
  refine List.Pairwise.imp₂ (fun a b h n => ?_) (ssort_sorted ps) (List.nodup_iff_pairwise_ne.mp nd)
  simp only [leP, Bool.or_eq_true, Bool.and_eq_true, decide_eq_true_eq] at h
  unfold ltP
  by_cases c : a.2 = b.2
  · rcases h with h | h
    · exact .inl h
    · exact absurd (Prod.ext h.1 c) n
  · omega
theorem dedupP_len : ∀ l : List (Int × Int), (dedupP l).length ≤ l.length
  | [] => Nat.le_refl _
  | p :: r => by
    have := dedupP_len r
    unfold dedupP
    split
    · simp; omega
    · simp; omega
theorem net_ok (ds : List Int) (hd : ∀ x ∈ ds, Nat16 x) (at_ most : Int) (h0 : 0 ≤ at_) (h1 : 1 ≤ most) (h2 : most ≤ 10) (hl : at_ + 3 + most ≤ ds.length) :
    ∃ r, t_law_net_u ds at_ most = .ok r ∧ 1 ≤ r.1 ∧ r.1 ≤ most ∧ NetOk r.1 r.2 := by
  unfold t_law_net_u
  simp only [tlet_eq]
  refine fin_run ?_
  refine fin_ob _ (atI_ok 0 (by omega) (by omega)) ?_
  refine fin_ob _ (modO_ok (by omega)) ?_
  have b1 := Int.emod_nonneg (ds.getD at_.toNat 0) (b := most) (by omega)
  have b2 := Int.emod_lt_of_pos (ds.getD at_.toNat 0) (b := most) (by omega)
  generalize ds.getD at_.toNat 0 % most = sz at b1 b2 ⊢
  refine fin_ob _ (atI_ok 0 (by omega) (by omega)) ?_
  refine fin_ob _ (atI_ok 0 (by omega) (by omega)) ?_
  generalize ds.getD (at_ + 2).toNat 0 % 4 = kind
  have r1 := Int.emod_nonneg (ds.getD (at_ + 1).toNat 0) (b := 4) (by decide)
  generalize ds.getD (at_ + 1).toNat 0 % 4 = rare at r1 ⊢
  refine fin_ob _ (rgO1_ok (by omega) (by omega)) ?_
  refine fin_bind (tfor_rg (fun k s => s.length ≤ tri k ∧ ∀ p ∈ s, PIn (1 + sz) p) _ (fun k s hk hs => ?_) ⟨Nat.le_refl _, by simp⟩) (fun s hs => ?_)
  · have t55 : tri k ≤ tri 9 := tri_mono (by omega)
    have e55 : tri 9 = 45 := by decide
    refine fin_ob _ (atI_ok 0 (by omega) (by omega)) ?_
    generalize ds.getD (at_ + 3 + (k : Int)).toNat 0 = draw
    have app : ∀ {s : List (Int × Int)} {p : Int × Int}, (∀ p ∈ s, PIn (1 + sz) p) → PIn (1 + sz) p → ∀ q ∈ s ++ [p], PIn (1 + sz) q := fun hs hp q hq => by
      rcases List.mem_append.mp hq with h | h
      · exact hs q h
      · rw [List.mem_singleton.mp h]; exact hp
    refine fin_bind (σ1 := List (Int × Int)) (I := fun s => (s.length ≤ tri k ∨ (kind ≠ 2 ∧ s.length ≤ tri k + 1)) ∧ ∀ p ∈ s, PIn (1 + sz) p) (fin_if (fun c => ?_) (fun c => ⟨.inl hs.1, hs.2⟩)) (fun s hs => ?_)
    · simp only [Bool.and_eq_true, decide_eq_true_eq] at c
      refine fin_ob _ (modO_ok c.2) ?_
      refine fin_ob _ (appO_ok (by omega)) ?_
      have q1 := Int.emod_nonneg draw (b := (k : Int)) (by omega)
      have q2 := Int.emod_lt_of_pos draw (b := (k : Int)) c.2
      exact ⟨.inr ⟨by omega, by simp; omega⟩, app hs.2 ⟨q1, q2, by show (k : Int) < 1 + sz; omega⟩⟩
    · refine fin_bind (σ1 := List (Int × Int)) (I := fun s => s.length ≤ tri k + 1 ∧ ∀ p ∈ s, PIn (1 + sz) p) (fin_if (fun c => ?_) (fun c => ⟨by rcases hs.1 with h | h <;> omega, hs.2⟩)) (fun s hs => ?_)
      · simp only [Bool.and_eq_true, decide_eq_true_eq] at c
        have hs1 : s.length ≤ tri k := by rcases hs.1 with h | h <;> omega
        refine fin_ob _ (appO_ok (by omega)) ?_
        exact ⟨by simp; omega, app hs.2 ⟨by show 0 ≤ (k : Int) - 1; omega, by show (k : Int) - 1 < k; omega, by show (k : Int) < 1 + sz; omega⟩⟩
      · refine fin_ob _ (rgO1_ok (by omega) (by omega)) ?_
        rw [Int.toNat_natCast]
        refine fin_bind (tfor_rg (fun j t => t.length ≤ tri k + 1 + j ∧ ∀ p ∈ t, PIn (1 + sz) p) _ (fun j t hj ht => ?_) ⟨by omega, hs.2⟩) (fun t ht => ⟨by show t.length ≤ tri k + (k + 1); omega, ht.2⟩)
        have fd : fdivO draw ((j : Int) + 2) = some (draw / ((j : Int) + 2)) := if_pos ⟨by omega, by omega⟩
        refine fin_ob _ fd ?_
        refine fin_ob _ (modO_ok (by split <;> omega)) ?_
        refine fin_if (fun c => ?_) (fun c => ⟨by omega, ht.2⟩)
        refine fin_ob _ (appO_ok (by omega)) ?_
        exact ⟨by simp; omega, app ht.2 ⟨by show 0 ≤ (j : Int); omega, by show (j : Int) < k; omega, by show (k : Int) < 1 + sz; omega⟩⟩
  · have t55 : tri (1 + sz).toNat ≤ tri 10 := tri_mono (by omega)
    have e55 : tri 10 = 55 := by decide
    refine fin_bind (σ1 := List (Int × Int)) (I := fun s => s.length ≤ 56 ∧ ∀ p ∈ s, PIn (1 + sz) p) (fin_if (fun c => ?_) (fun c => ⟨by omega, hs.2⟩)) (fun s hs => ?_)
    · simp only [Bool.and_eq_true, decide_eq_true_eq] at c
      refine fin_ob _ (appO_ok (by omega)) ?_
      refine ⟨by simp; omega, fun q hq => ?_⟩
      rcases List.mem_append.mp hq with h | h
      · exact hs.2 q h
      · rw [List.mem_singleton.mp h]
        exact ⟨Int.le_refl _, by show (0 : Int) < 1 + sz - 1; omega, by show 1 + sz - 1 < 1 + sz; omega⟩
    · have ss : sortSet s = some (ssort s) := by
        unfold sortSet
        rw [if_pos]
        refine ⟨by omega, List.all_eq_true.mpr fun p hp => ?_⟩
        obtain ⟨q1, q2, q3⟩ := hs.2 p hp
        simp only [in64, Bool.and_eq_true, decide_eq_true_eq]
        omega
      refine fin_ob _ ss ?_
      exact ⟨by show 1 ≤ 1 + sz; omega, by show 1 + sz ≤ most; omega, fun p hp => hs.2 p ((mem_ssort s p).mp hp), ssort_asc s, by
        have := dedupP_len s
        have e : (ssort s).length = (dedupP s).length := (isort_perm _).length_eq
        show (ssort s).length ≤ 56
        omega⟩
end LW
set_option Elab.async false
set_option linter.all false
set_option maxRecDepth 100000
set_option maxHeartbeats 2000000
namespace LW
open PySem PySem.Spec PyProof.Rows L2 DL TL
/-! ## the net and its ways -/
def add1 (m : List (List Int)) (a b : Int) : List (List Int) := m.set a.toNat (m.getD a.toNat [] ++ [b])
def addN (m : List (List Int)) (p : Int × Int) : List (List Int) := add1 (add1 m p.1 p.2) p.2 p.1
@[simp] theorem add1_len (m : List (List Int)) (a b : Int) : (add1 m a b).length = m.length := by simp [add1]
@[simp] theorem addN_len (m : List (List Int)) (p : Int × Int) : (addN m p).length = m.length := by simp [addN]
theorem isO_of {d : D} {a n : String} {b : Bool} (h : tyName d = some a) (h2 : subTy a n = some b) : isO d n = some b := by
  show (tyName d).bind _ = _
  rw [h]; exact h2
theorem isII (i : Int) : isO (.int i) "int" = some true := isO_of (a := "int") rfl (by decide +kernel)
theorem isIB (i : Int) : isO (.int i) "bool" = some false := isO_of (a := "int") rfl (by decide +kernel)
theorem whole_ok (v a b : Int) : t_is_whole (.int v) a b = .ok (decide (a ≤ v) && decide (v ≤ b)) := by
  unfold t_is_whole
  rw [isII, isIB]
  have e1 : (leD (.int a) (.int v)).bind asB = some (decide (a ≤ v)) := rfl
  have e2 : (leD (.int v) (.int b)).bind asB = some (decide (v ≤ b)) := rfl
  simp [e1, e2]
theorem setI_ok {α : Type} {xs : List α} {k : Int} (w : α) (h : 0 ≤ k) (h2 : k < xs.length) : setI xs k w = xs.set k.toNat w := by
  unfold setI; rw [ixN_ok h h2]
def Small (n : Nat) (m : List (List Int)) : Prop := ∀ l ∈ m, l.length ≤ n
theorem small_get {n : Nat} {m : List (List Int)} (h : Small n m) (i : Nat) : (m.getD i []).length ≤ n := by
  rw [List.getD]
  cases e : m[i]? with
  | none => exact Nat.zero_le _
  | some l => exact h l (List.mem_of_getElem? e)
theorem small_add1 {n : Nat} {m : List (List Int)} (h : Small n m) (a b : Int) : Small (n + 1) (add1 m a b) := fun l hl => by
  rcases List.mem_or_eq_of_mem_set hl with h1 | h1
  · exact Nat.le_succ_of_le (h l h1)
  · rw [h1, List.length_append]; have := small_get h a.toNat; show (m.getD a.toNat []).length + 1 ≤ n + 1; omega
theorem loop_ok {τ ρ : Type} {size : Int} {ps : List (Int × Int)} (hp : ∀ p ∈ ps, PIn size p) (m : List (List Int)) (hm : (m.length : Int) = size) (n : Nat) (hs : Small n m) (hn : n + 2 * ps.length ≤ 10000) :
    (tfor ps m (fun s8 y7 =>
  (obind (L2.atI s8 y7.1) fun v9 =>
  (obind (appO v9 y7.2) fun c10 => tlet (setI s8 y7.1 c10) fun x_self__near =>
  (obind (L2.atI x_self__near y7.2) fun v11 =>
  (obind (appO v11 y7.1) fun c12 => tlet (setI x_self__near y7.2 c12) fun x_self__near =>
  .nx x_self__near))))) : TF τ (List (List Int)) ρ) = .nx (ps.foldl addN m) := by
  refine (tfor_foldN addN (fun k s => (s.length : Int) = size ∧ ∃ j, Small j s ∧ j + 2 * k ≤ 10000) (fun k s hs y hy => ?_) ⟨hm, n, hs, hn⟩).1
  obtain ⟨q1, q2, q3⟩ := hp y hy
  obtain ⟨e, j, hj, hk⟩ := hs
  have g1 := small_get hj y.1.toNat
  have s1 := small_add1 hj y.1 y.2
  have g2 := small_get s1 y.2.toNat
  refine ⟨?_, by rw [addN_len]; exact e, j + 2, small_add1 s1 y.2 y.1, by omega⟩
  rw [atI_ok [] q1 (by omega)]
  simp only [obind_some, tlet_eq]
  rw [appO_ok (by omega)]
  simp only [obind_some]
  rw [setI_ok _ q1 (by omega)]
  show (obind (L2.atI (add1 s y.1 y.2) y.2) fun v11 => (obind (appO v11 y.1) fun c12 => (.nx (setI (add1 s y.1 y.2) y.2 c12) : TF _ _ _))) = _
  rw [atI_ok [] (by omega) (by rw [add1_len]; omega)]
  simp only [obind_some]
  rw [appO_ok (by omega)]
  simp only [obind_some]
  rw [setI_ok _ (by omega) (by rw [add1_len]; omega)]
  rfl
def near (size : Int) (ps : List (Int × Int)) : List (List Int) := ps.foldl addN ((rgL 0 size.toNat 1).map fun _ => [])
def wys0 (size : Int) (ps : List (Int × Int)) : List (List Int) := ps.foldl addN ((rgL 0 size.toNat 1).map fun k => [k])
def wys (size : Int) (ps : List (Int × Int)) : List (List Int) := (wys0 size ps).map isI
theorem fold_len (ps : List (Int × Int)) : ∀ m : List (List Int), (ps.foldl addN m).length = m.length := by
  induction ps with
  | nil => intro m; rfl
  | cons p ps ih => intro m; rw [List.foldl_cons, ih, addN_len]
theorem law_ways_ok {size : Int} {ps : List (Int × Int)} (h : NetOk size ps) (h1 : 1 ≤ size) (h2 : size ≤ 24) : t_law_ways_u size ps = .ok (wys size ps) := by
  unfold t_law_ways_u
  rw [rgO1_ok (by omega) (by omega)]
  simp only [obind_some]
  rw [tcomp_all (fun k => [k]) (by rw [rgL_len, szl]; omega) (fun _ _ => rfl)]
  simp only [obind_some, tlet_eq]
  have sm : Small 1 ((rgL 0 size.toNat 1).map fun k => [k]) := fun l hl => by
    obtain ⟨k, _, rfl⟩ := List.mem_map.mp hl; exact Nat.le_refl _
  have e := loop_ok (τ := Unit) (ρ := List (List Int)) h.pin ((rgL 0 size.toNat 1).map fun k => [k]) (by simp; omega) 1 sm (by have := h.len; omega)
  simp only [tlet_eq] at e
  rw [e]
  simp only [TF.bind_nx]
  rw [tcomp_all isI (by rw [fold_len, List.length_map, rgL_len, szl]; omega) (fun _ _ => sortO_int _)]
  rfl
end LW
set_option Elab.async false
set_option linter.all false
set_option maxRecDepth 100000
set_option maxHeartbeats 2000000
namespace LW
open PySem PySem.Spec PyProof.Rows L2 DL TL
theorem pairs_ok {size : Int} {ps : List (Int × Int)} (h : NetOk size ps) : t_are_pairs_u size ps = .ok true := by
  have hl := h.len
  unfold t_are_pairs_u
  rw [tcomp_all (f := fun _ : Int × Int => some (true && (decide ((2 : Int) = (2 : Int))))) (fun _ => true) (by rw [szl]; omega) (fun _ _ => rfl)]
  have e1 : (ps.map fun _ => true).all (fun b => b) = true := by simp
  simp only [obS, e1, Bool.not_true, orO_some, Bool.or_false, obind_some, if_neg Bool.false_ne_true]
  rw [tfor_fs (fun _ => (none : Option Bool)) (fun y hy => by
    obtain ⟨q1, q2, q3⟩ := h.pin y hy
    rw [whole_ok, whole_ok]
    have c1 : (decide ((0 : Int) ≤ y.1) && decide (y.1 ≤ size - 1)) = true := by simp; omega
    have c2 : (decide ((0 : Int) ≤ y.2) && decide (y.2 ≤ size - 1)) = true := by simp; omega
    have c3 : decide (y.2 ≤ y.1) = false := by simp; omega
    simp only [opt_ok, obind_some, obS, c1, c2, c3]
    rfl)]
  have e2 : ps.findSome? (fun _ => (none : Option Bool)) = none := by rw [List.findSome?_eq_none_iff]; intros; rfl
  rw [e2]
  show TF.run' (obind (rgO1 _) _) = _
  rw [rgO1_ok (by omega) (by omega)]
  simp only [obind_some]
  rw [tcomp_all (fun _ => true) (by rw [rgL_len, szl]; omega) (fun k hk => by
    rw [mem_rg1] at hk
    rw [atI_ok (0, 0) (by omega) (by omega), atI_ok (0, 0) (by omega) (by omega)]
    simp only [obS]
    have hi : k.toNat < ps.length := by omega
    have hj : (k + 1).toNat < ps.length := by omega
    have := List.pairwise_iff_getElem.mp h.asc k.toNat (k + 1).toNat hi hj (by omega)
    have g1 : ps.getD k.toNat (0, 0) = ps[k.toNat] := by simp [List.getD, hi]
    have g2 : ps.getD (k + 1).toNat (0, 0) = ps[(k + 1).toNat] := by simp [List.getD, hj]
    rw [g1, g2, HT.lexLt_cons, HT.lexLt_cons]
    unfold ltP at this
    congr 1
    split
    · rename_i c
      rw [if_neg (by omega)]
      simp; omega
    · simp; omega)]
  simp
theorem init_ok {size : Int} {ps : List (Int × Int)} (h : NetOk size ps) (h1 : 1 ≤ size) (h2 : size ≤ 24) : t_Net_init size ps = .ok (size, ps, near size ps) := by
  have hl := h.len
  unfold t_Net_init
  rw [whole_ok, pairs_ok h]
  have c1 : (decide ((1 : Int) ≤ size) && decide (size ≤ 24)) = true := by simp; omega
  simp only [opt_ok, obind_some, obS, c1, Bool.not_true, orO_some, Bool.or_false, if_neg Bool.false_ne_true, tlet_eq]
  rw [rgO1_ok (by omega) (by omega)]
  simp only [obind_some]
  rw [tcomp_all (fun _ => ([] : List Int)) (by rw [rgL_len, szl]; omega) (fun _ _ => rfl)]
  simp only [obind_some]
  have sm : Small 1 ((rgL 0 size.toNat 1).map fun _ => ([] : List Int)) := fun l hl => by
    obtain ⟨k, _, rfl⟩ := List.mem_map.mp hl; exact Nat.zero_le _
  have e := loop_ok (τ := Unit) (ρ := Unit) h.pin ((rgL 0 size.toNat 1).map fun _ => ([] : List Int)) (by simp; omega) 1 sm (by omega)
  simp only [tlet_eq] at e
  rw [e]
  rfl
/-- the lists of both stand in step -/
def Step (a b : List (List Int)) : Prop := a.length = b.length ∧ ∀ i, i < a.length → b.getD i [] = (i : Int) :: a.getD i []
theorem getD_set {m : List (List Int)} {i j : Nat} {l : List Int} (h : i < m.length) : (m.set i l).getD j [] = if j = i then l else m.getD j [] := by
  rw [List.getD, List.getElem?_set]
  by_cases c : i = j
  · subst c; simp [h]
  · rw [if_neg c, if_neg (fun e => c e.symm)]; rfl
theorem step_add1 {a b : List (List Int)} (h : Step a b) {x y : Int} (h0 : 0 ≤ x) (h1 : x < a.length) : Step (add1 a x y) (add1 b x y) := by
  have hx : x.toNat < a.length := by omega
  have hy : x.toNat < b.length := by rw [← h.1]; exact hx
  refine ⟨by rw [add1_len, add1_len, h.1], fun i hi => ?_⟩
  rw [add1_len] at hi
  unfold add1
  rw [getD_set hx, getD_set hy]
  by_cases c : i = x.toNat
  · rw [if_pos c, if_pos c, h.2 x.toNat hx, c]; rfl
  · rw [if_neg c, if_neg c, h.2 i hi]
theorem step_fold {size : Int} : ∀ {ps : List (Int × Int)} {a b : List (List Int)}, (∀ p ∈ ps, PIn size p) → (a.length : Int) = size → Step a b → Step (ps.foldl addN a) (ps.foldl addN b)
  | [], _, _, _, _, h => h
  | p :: ps, a, b, hp, hl, h => by
    obtain ⟨q1, q2, q3⟩ := hp p List.mem_cons_self
    rw [List.foldl_cons, List.foldl_cons]
    refine step_fold (fun q hq => hp q (List.mem_cons_of_mem _ hq)) (by rw [addN_len]; exact hl) ?_
    unfold addN
    exact step_add1 (step_add1 h q1 (by omega)) (by omega) (by rw [add1_len]; omega)
theorem near_len (size : Int) (ps : List (Int × Int)) : (near size ps).length = size.toNat := by
  unfold near; rw [fold_len, List.length_map, rgL_len]
theorem wys_len (size : Int) (ps : List (Int × Int)) : (wys size ps).length = size.toNat := by
  unfold wys wys0; rw [List.length_map, fold_len, List.length_map, rgL_len]
theorem near_step {size : Int} {ps : List (Int × Int)} (h : NetOk size ps) (h1 : 1 ≤ size) : Step (near size ps) (wys0 size ps) := by
  refine step_fold h.pin (by simp; omega) ⟨by simp, fun i hi => ?_⟩
  simp only [List.length_map, rgL_len] at hi
  rw [List.getD, List.getD, List.getElem?_map, List.getElem?_map, rgL_get hi]
  show [(0 : Int) + (i : Int) * 1] = [(i : Int)]
  congr 1; omega
theorem isI_perm_eq {a b : List Int} (h : a.Perm b) : isI a = isI b := (isI_eq (isI_sorted b)).mpr (h.trans (isI_perm b).symm)
theorem wys_get {size : Int} {ps : List (Int × Int)} (h : NetOk size ps) (h1 : 1 ≤ size) {i : Nat} (hi : i < size.toNat) : (wys size ps).getD i [] = isI ((i : Int) :: (near size ps).getD i []) := by
  have hw : i < (wys0 size ps).length := by have := (near_step h h1).1; rw [near_len] at this; omega
  unfold wys
  rw [List.getD, List.getElem?_map, List.getElem?_eq_getElem hw]
  have e := (near_step h h1).2 i (by rw [near_len]; exact hi)
  rw [List.getD, List.getElem?_eq_getElem hw] at e
  show isI _ = _
  rw [show (wys0 size ps)[i] = _ from e]
theorem ways_ok {size : Int} {ps : List (Int × Int)} (h : NetOk size ps) (h1 : 1 ≤ size) {p : Int} (hp : 0 ≤ p) (hp2 : p < size) (hs : Small 10000 (near size ps)) : t_Net_ways (size, ps, near size ps) p = .ok ((wys size ps).getD p.toNat []) := by
  unfold t_Net_ways
  rw [atI_ok [] hp (by rw [near_len]; omega)]
  simp only [obind_some]
  have := small_get hs p.toNat
  rw [extO_ok (by simp only [List.length_cons, List.length_nil]; omega)]
  simp only [obind_some]
  rw [sortO_int]
  simp only [obind_some, TF.run'_rt]
  rw [wys_get h h1 (by omega)]
  congr 1
  have e : ((p.toNat : Nat) : Int) = p := by omega
  rw [e]
  exact isI_perm_eq (List.perm_append_comm (l₁ := (near size ps).getD p.toNat []) (l₂ := [p]))
theorem small_fold : ∀ {ps : List (Int × Int)} {n : Nat} {m : List (List Int)}, Small n m → Small (n + 2 * ps.length) (ps.foldl addN m)
  | [], _, _, h => h
  | p :: ps, n, m, h => by
    rw [List.foldl_cons]
    have := small_fold (ps := ps) (n := n + 2) (m := addN m p) (small_add1 (small_add1 h p.1 p.2) p.2 p.1)
    have e : n + 2 + 2 * ps.length = n + 2 * (p :: ps).length := by simp; omega
    rw [e] at this; exact this
theorem near_small {size : Int} {ps : List (Int × Int)} (h : NetOk size ps) : Small 10000 (near size ps) := fun l hl => by
  have sm : Small 1 ((rgL 0 size.toNat 1).map fun _ => ([] : List Int)) := fun l hl => by
    obtain ⟨k, _, rfl⟩ := List.mem_map.mp hl; exact Nat.zero_le _
  have := small_fold (ps := ps) sm l hl
  have := h.len
  omega
end LW
set_option Elab.async false
set_option linter.all false
set_option maxRecDepth 100000
set_option maxHeartbeats 2000000
namespace LW
open PySem PySem.Spec PyProof.Rows L2 DL TL
/-! ## words for plain lists -/
theorem insD_sort {α : Type} {le : α → α → Bool} (tot : ∀ a b, le a b = true ∨ le b a = true) (tr : ∀ a b c, le a b = true → le b c = true → le a c = true) (a : α) : ∀ l : List α, l.Pairwise (fun x y => le x y = true) → (insD le a l).Pairwise (fun x y => le x y = true)
  | [], _ => by simp [insD]
  | b :: l, h => by
    have hc := List.pairwise_cons.mp h
    unfold insD
    split
    · rename_i c
      exact List.pairwise_cons.mpr ⟨fun x hx => (List.mem_cons.mp hx).elim (fun e => e ▸ c) fun e => tr _ _ _ c (hc.1 x e), h⟩
    · rename_i c
      refine List.pairwise_cons.mpr ⟨fun x hx => ?_, insD_sort tot tr a l hc.2⟩
      have ip : (insD le a l).Perm (a :: l) := by
        have e := isort_perm (le := le) (a :: l)
        clear hx x
        induction l with
        | nil => exact .refl _
        | cons b l ih =>
          unfold insD
          split
          · exact .refl _
          · exact (List.Perm.cons b (ih (by have := List.pairwise_cons.mp h; exact List.pairwise_cons.mpr ⟨fun x hx => this.1 x (List.mem_cons_of_mem _ hx), (List.pairwise_cons.mp this.2).2⟩) (by have := List.pairwise_cons.mp h; exact ⟨fun x hx => this.1 x (List.mem_cons_of_mem _ hx), (List.pairwise_cons.mp this.2).2⟩) (isort_perm _))).trans (.swap _ _ _)
      rcases List.mem_cons.mp (ip.mem_iff.mp hx) with e | e
      · subst e; exact (tot x b).elim (fun z => absurd z c) id
      · exact hc.1 x e
theorem isort_sort {α : Type} {le : α → α → Bool} (tot : ∀ a b, le a b = true ∨ le b a = true) (tr : ∀ a b c, le a b = true → le b c = true → le a c = true) : ∀ l : List α, (isort le l).Pairwise (fun x y => le x y = true)
  | [] => by simp [isort]
  | a :: l => insD_sort tot tr a _ (isort_sort tot tr l)
theorem isI_of {w v : List Int} (hv : v.Pairwise (· < ·)) (hw : w.Nodup) (h : ∀ x, x ∈ w ↔ x ∈ v) : isI w = v :=
  (isI_eq (hv.imp Int.le_of_lt)).mpr ((List.perm_ext_iff_of_nodup hw (hv.imp fun h => Int.ne_of_lt h)).mpr h)
/-! ### values over a range, as functions -/
abbrev rn (n : Int) : List Int := rgL 0 n.toNat 1
theorem mem_rn {n a : Int} : a ∈ rn n ↔ 0 ≤ a ∧ a < n := by rw [mem_rg1]; omega
theorem rn_lt (n : Int) : (rn n).Pairwise (· < ·) := by
  show (rgL 0 n.toNat 1).Pairwise _
  rw [rg0, List.pairwise_map]
  exact List.pairwise_lt_range.imp fun h => by omega
theorem rn_nodup (n : Int) : (rn n).Nodup := (rn_lt n).imp fun h => Int.ne_of_lt h
theorem rn_len (n : Int) : (rn n).length = n.toNat := by simp [rgL_len]
def up {α β : Type} [DecidableEq α] (f : α → β) (a : α) (v : β) : α → β := fun x => if x = a then v else f x
theorem up_self {α β : Type} [DecidableEq α] (f : α → β) (a : α) (v : β) : up f a v a = v := if_pos rfl
theorem up_ne {α β : Type} [DecidableEq α] (f : α → β) {a x : α} (v : β) (h : x ≠ a) : up f a v x = f x := if_neg h
theorem rn_get {α : Type} {n : Int} (f : Int → α) {k : Nat} (h : (k : Int) < n) : ((rn n).map f)[k]? = some (f k) := by
  rw [List.getElem?_map, rgL_get (by omega)]; simp
theorem atI_rn {α : Type} {n a : Int} (f : Int → α) (h : 0 ≤ a) (h2 : a < n) : L2.atI ((rn n).map f) a = some (f a) := by
  unfold L2.atI
  rw [ixN_ok h (by rw [List.length_map, rn_len]; omega), obS, rn_get f (by omega)]
  congr 2; omega
theorem set_rn {α : Type} {n a : Int} (f : Int → α) (v : α) (h : 0 ≤ a) (h2 : a < n) : ((rn n).map f).set a.toNat v = (rn n).map (up f a v) := by
  apply List.ext_getElem?
  intro k
  by_cases c : k < n.toNat
  · rw [rn_get _ (by omega), List.getElem?_set]
    by_cases e : a.toNat = k
    · rw [if_pos e, if_pos (by rw [List.length_map, rn_len]; omega)]
      unfold up; rw [if_pos (by omega)]
    · rw [if_neg e, rn_get _ (by omega)]
      unfold up; rw [if_neg (by omega)]
  · rw [List.getElem?_eq_none (by rw [List.length_set, List.length_map, rn_len]; omega), List.getElem?_eq_none (by rw [List.length_map, rn_len]; omega)]
theorem setO_rn {α : Type} {n a : Int} (f : Int → α) (v : α) (h : 0 ≤ a) (h2 : a < n) : setO ((rn n).map f) a v = some ((rn n).map (up f a v)) := by
  unfold setO
  rw [ixN_ok h (by rw [List.length_map, rn_len]; omega), Option.map_some, set_rn f v h h2]
theorem mapE_fst {β : Type} (E : List (Int × Int)) (q : Int × Int → β) : (E.map fun p => (p, q p)).map Prod.fst = E := by
  rw [List.map_map]; exact List.map_id E
theorem getM_E {κ β : Type} [DecidableEq κ] (q : κ → β) {p : κ} : ∀ {E : List κ}, p ∈ E → getM (E.map fun p => (p, q p)) p = some (q p)
  | x :: E, h => by
    unfold getM
    rw [List.map_cons, List.lookup_cons]
    by_cases c : p = x
    · subst c; simp
    · have : (p == x) = false := by simpa using c
      simp only [this]
      exact getM_E q ((List.mem_cons.mp h).resolve_left c)
/-! ### loops as folds of values behind -/
theorem tfor_sim {A β σ τ ρ : Type} (enc : A → σ) (step : A → β → A) {b : σ → β → TF σ σ ρ} : ∀ {vs : List β}, (∀ a, ∀ y ∈ vs, b (enc a) y = .nx (enc (step a y))) → ∀ a, (tfor vs (enc a) b : TF τ σ ρ) = .nx (enc (vs.foldl step a))
  | [], _, a => rfl
  | y :: vs, h, a => by
    rw [tfor_cons, h a y List.mem_cons_self, tnext_nx]
    exact tfor_sim enc step (fun a y hy => h a y (List.mem_cons_of_mem _ hy)) _
theorem twhile_sim {A σ τ ρ : Type} (enc : A → σ) (step : A → A) (c : A → Bool) (I : A → Prop) (μ : A → Nat) {cc : σ → Option Bool} {b : σ → TF σ σ ρ} (hc : ∀ a, cc (enc a) = some (c a)) (hb : ∀ a, I a → c a = true → b (enc a) = .nx (enc (step a)) ∧ I (step a) ∧ μ (step a) < μ a) :
    ∀ (N : Nat) (a : A), I a → μ a < N → ∃ a', (twhile N (enc a) cc b : TF τ σ ρ) = .nx (enc a') ∧ I a' ∧ c a' = false
  | 0, a, _, h => absurd h (by omega)
  | N + 1, a, i, h => by
    unfold twhile
    rw [hc a]
    cases e : c a with
    | true =>
      obtain ⟨h1, h2, h3⟩ := hb a i e
      rw [h1]
      exact twhile_sim enc step c I μ hc hb N _ h2 (by omega)
    | false => exact ⟨a, rfl, i, e⟩
theorem bind_to {σ1 σ τ ρ : Type} {t : TF τ σ1 ρ} {k : σ1 → TF τ σ ρ} {s : σ1} {r : TF τ σ ρ} (h : t = .nx s) (h2 : k s = r) : t.bind k = r := by subst h; exact h2
theorem ob_to {α σ τ ρ : Type} {o : Option α} {k : α → TF τ σ ρ} {x : α} {r : TF τ σ ρ} (h : o = some x) (h2 : k x = r) : obind o k = r := by subst h; exact h2
theorem ob_o {α β : Type} {o : Option α} {k : α → Option β} {x : α} {r : Option β} (h : o = some x) (h2 : k x = r) : o.bind k = r := by subst h; exact h2
end LW
set_option Elab.async false
set_option linter.all false
set_option maxRecDepth 100000
set_option maxHeartbeats 2000000
namespace LW
open PySem PySem.Spec PyProof.Rows L2 DL TL
/-! ## the times, round by round -/
abbrev wy (W : List (List Int)) (a : Int) : List Int := W.getD a.toNat []
structure Way (n : Int) (W : List (List Int)) : Prop where
  len : W.length = n.toNat
  self : ∀ a, 0 ≤ a → a < n → a ∈ wy W a
  rg : ∀ a, 0 ≤ a → a < n → ∀ x ∈ wy W a, 0 ≤ x ∧ x < n
  asc : ∀ a, 0 ≤ a → a < n → (wy W a).Pairwise (· ≤ ·)
  few : ∀ a, 0 ≤ a → a < n → (wy W a).length ≤ 20000
def VU (W : List (List Int)) : Nat → (Int → Int → Int) × (Int → Int → Int)
  | 0 => (fun c t => if c = t then 0 else 1000, fun c t => if c = t then 0 else 1000)
  | k + 1 => let v' : Int → Int → Int := fun c t => if (VU W k).1 c t = 1000 then (if ((wy W c).any fun o => !decide ((VU W k).2 o t = 1000)) = true then (k : Int) + 1 else 1000) else (VU W k).1 c t
    (v', fun c t => if (VU W k).2 c t = 1000 then (if ((wy W t).all fun o => !decide (v' c o = 1000)) = true then (k : Int) + 1 else 1000) else (VU W k).2 c t)
abbrev V (W : List (List Int)) (k : Nat) : Int → Int → Int := (VU W k).1
abbrev U (W : List (List Int)) (k : Nat) : Int → Int → Int := (VU W k).2
variable {n : Int} {W : List (List Int)}
theorem V_succ (k : Nat) (c t : Int) : V W (k + 1) c t = if V W k c t = 1000 then (if ((wy W c).any fun o => !decide (U W k o t = 1000)) = true then (k : Int) + 1 else 1000) else V W k c t := rfl
theorem U_succ (k : Nat) (c t : Int) : U W (k + 1) c t = if U W k c t = 1000 then (if ((wy W t).all fun o => !decide (V W (k + 1) c o = 1000)) = true then (k : Int) + 1 else 1000) else U W k c t := rfl
theorem V_zero (c t : Int) : V W 0 c t = if c = t then 0 else 1000 := rfl
theorem U_zero (c t : Int) : U W 0 c t = if c = t then 0 else 1000 := rfl
theorem bnd : ∀ (k : Nat) (c t : Int), ((0 ≤ V W k c t ∧ V W k c t ≤ k) ∨ V W k c t = 1000) ∧ ((0 ≤ U W k c t ∧ U W k c t ≤ k) ∨ U W k c t = 1000)
  | 0, c, t => by rw [V_zero, U_zero]; split <;> simp
  | k + 1, c, t => by
    have ih := bnd k c t
    rw [V_succ, U_succ]
    constructor
    · split
      · split
        · left; omega
        · right; rfl
      · left; omega
    · split
      · split
        · left; omega
        · right; rfl
      · left; omega
theorem V_up {k : Nat} {c t : Int} (h : V W k c t ≠ 1000) : V W (k + 1) c t = V W k c t := by rw [V_succ, if_neg h]
theorem U_up {k : Nat} {c t : Int} (h : U W k c t ≠ 1000) : U W (k + 1) c t = U W k c t := by rw [U_succ, if_neg h]
theorem V_self : ∀ (k : Nat) (c : Int), V W k c c = 0
  | 0, c => by rw [V_zero, if_pos rfl]
  | k + 1, c => by have := V_self k c; rw [V_up (by rw [this]; decide), this]
theorem U_self : ∀ (k : Nat) (c : Int), U W k c c = 0
  | 0, c => by rw [U_zero, if_pos rfl]
  | k + 1, c => by have := U_self k c; rw [U_up (by rw [this]; decide), this]
theorem V_new {k : Nat} {c t : Int} (h : V W k c t = 1000) : (V W (k + 1) c t = k + 1 ∧ ∃ o ∈ wy W c, U W k o t ≠ 1000) ∨ (V W (k + 1) c t = 1000 ∧ ∀ o ∈ wy W c, U W k o t = 1000) := by
  rw [V_succ, if_pos h]
  split
  · rename_i c
    obtain ⟨o, ho, h2⟩ := List.any_eq_true.mp c
    exact .inl ⟨rfl, o, ho, by simpa using h2⟩
  · rename_i c
    refine .inr ⟨rfl, fun o ho => Classical.byContradiction fun z => c (List.any_eq_true.mpr ⟨o, ho, by simpa using z⟩)⟩
theorem U_new {k : Nat} {c t : Int} (h : U W k c t = 1000) : (U W (k + 1) c t = k + 1 ∧ ∀ o ∈ wy W t, V W (k + 1) c o ≠ 1000) ∨ (U W (k + 1) c t = 1000 ∧ ∃ o ∈ wy W t, V W (k + 1) c o = 1000) := by
  rw [U_succ, if_pos h]
  split
  · rename_i c
    exact .inl ⟨rfl, fun o ho => by simpa using List.all_eq_true.mp c o ho⟩
  · rename_i d
    refine .inr ⟨rfl, Classical.byContradiction fun z => d (List.all_eq_true.mpr fun o ho => by simpa using fun w => z ⟨o, ho, w⟩)⟩
/-- behind: the greatest of the times at the thief's ways -/
theorem maxU (hW : Way n W) : ∀ (k : Nat) {c t : Int}, k ≤ 900 → 0 ≤ t → t < n → c ≠ t → (∃ a ∈ wy W t, V W k c a = U W k c t) ∧ ∀ a ∈ wy W t, V W k c a ≤ U W k c t
  | 0, c, t, _, h0, h1, hct => by
    rw [U_zero, if_neg hct]
    exact ⟨⟨t, hW.self t h0 h1, by rw [V_zero, if_neg hct]⟩, fun a _ => by rw [V_zero]; split <;> omega⟩
  | k + 1, c, t, hk, h0, h1, hct => by
    obtain ⟨⟨a0, ha0, e0⟩, i2⟩ := maxU hW k (by omega) h0 h1 hct
    have bu := (bnd (W := W) k c t).2
    by_cases h : U W k c t = 1000
    · rcases U_new h with ⟨e, w⟩ | ⟨e, o, ho, w⟩
      · rw [e]
        refine ⟨⟨a0, ha0, ?_⟩, fun a ha => ?_⟩
        · rcases V_new (e0.trans h) with ⟨z, _⟩ | ⟨z, _⟩
          · exact z
          · exact absurd z (w a0 ha0)
        · have := (bnd (W := W) (k + 1) c a).1
          have := w a ha
          omega
      · rw [e]
        refine ⟨⟨o, ho, w⟩, fun a _ => ?_⟩
        have := (bnd (W := W) (k + 1) c a).1
        omega
    · rw [U_up h]
      refine ⟨⟨a0, ha0, by rw [V_up (by rw [e0]; exact h), e0]⟩, fun a ha => ?_⟩
      have := i2 a ha
      have bv := (bnd (W := W) k c a).1
      rw [V_up (by omega)]; exact this
/-- before: one more than the least behind -/
theorem minV : ∀ (k : Nat) {c t : Int}, k ≤ 900 → c ≠ t → (V W (k + 1) c t = 1000 ∧ ∀ o ∈ wy W c, U W k o t = 1000) ∨ (∃ j : Int, V W (k + 1) c t = j + 1 ∧ j ≤ k ∧ (∃ o ∈ wy W c, U W k o t = j) ∧ ∀ o ∈ wy W c, j ≤ U W k o t)
  | 0, c, t, _, hct => by
    rcases V_new (k := 0) (W := W) (c := c) (t := t) (by rw [V_zero, if_neg hct]) with ⟨e, o, ho, w⟩ | ⟨e, w⟩
    · refine .inr ⟨0, by rw [e]; rfl, Int.le_refl _, ⟨o, ho, ?_⟩, fun o _ => ?_⟩
      · have := (bnd (W := W) 0 o t).2; omega
      · have := (bnd (W := W) 0 o t).2; omega
    · exact .inl ⟨e, w⟩
  | k + 1, c, t, hk, hct => by
    rcases minV k (by omega) hct with ⟨e, w⟩ | ⟨j, e, hj, ⟨o, ho, w⟩, w2⟩
    · rcases V_new e with ⟨e', o, ho, w'⟩ | ⟨e', w'⟩
      · refine .inr ⟨(k : Int) + 1, by rw [e']; omega, by omega, ⟨o, ho, ?_⟩, fun o ho => ?_⟩
        · rcases U_new (w o ho) with ⟨z, _⟩ | ⟨z, _⟩
          · exact z
          · exact absurd z w'
        · rcases U_new (w o ho) with ⟨z, _⟩ | ⟨z, _⟩ <;> omega
      · exact .inl ⟨e', w'⟩
    · refine .inr ⟨j, by rw [V_up (by omega), e], by omega, ⟨o, ho, by rw [U_up (by omega), w]⟩, fun o ho => ?_⟩
      by_cases h : U W k o t = 1000
      · rcases U_new h with ⟨z, _⟩ | ⟨z, _⟩ <;> omega
      · rw [U_up h]; exact w2 o ho
/-! ### where nothing changes -/
def St (n : Int) (W : List (List Int)) (k : Nat) : Prop := ∀ c t, 0 ≤ c → c < n → 0 ≤ t → t < n → V W (k + 1) c t = V W k c t
theorem St.u (hW : Way n W) {k : Nat} (hk : k + 1 ≤ 900) (s : St n W k) {c t : Int} (h0 : 0 ≤ c) (h1 : c < n) (h2 : 0 ≤ t) (h3 : t < n) : U W (k + 1) c t = U W k c t := by
  by_cases e : c = t
  · subst e; rw [U_self, U_self]
  · obtain ⟨⟨a, ha, ea⟩, wa⟩ := maxU hW k (by omega) h2 h3 e
    obtain ⟨⟨b, hb, eb⟩, wb⟩ := maxU hW (k + 1) hk h2 h3 e
    have ra := hW.rg t h2 h3 a ha
    have rb := hW.rg t h2 h3 b hb
    have sa := s c a h0 h1 ra.1 ra.2
    have sb := s c b h0 h1 rb.1 rb.2
    have := wa b hb
    have := wb a ha
    omega
theorem St.next (hW : Way n W) {k : Nat} (hk : k + 1 ≤ 900) (s : St n W k) : St n W (k + 1) := fun c t h0 h1 h2 h3 => by
  by_cases h : V W (k + 1) c t = 1000
  · rcases V_new h with ⟨e, o, ho, w⟩ | ⟨e, _⟩
    · have ro := hW.rg c h0 h1 o ho
      rw [s.u hW hk ro.1 ro.2 h2 h3] at w
      have hv : V W k c t = 1000 := by rw [← s c t h0 h1 h2 h3]; exact h
      rcases V_new hv with ⟨e', _⟩ | ⟨_, w'⟩
      · rw [h] at e'; omega
      · exact absurd (w' o ho) w
    · rw [e, h]
  · exact V_up h
theorem St.all (hW : Way n W) {k : Nat} (s : St n W k) : ∀ (d : Nat), k + d ≤ 890 → St n W (k + d) ∧ ∀ c t, 0 ≤ c → c < n → 0 ≤ t → t < n → V W (k + d) c t = V W k c t ∧ U W (k + d) c t = U W k c t
  | 0, _ => ⟨s, fun _ _ _ _ _ _ => ⟨rfl, rfl⟩⟩
  | d + 1, h => by
    obtain ⟨s1, s2⟩ := s.all hW d (by omega)
    have hb : k + d + 1 ≤ 900 := by omega
    refine ⟨s1.next hW hb, fun c t h0 h1 h2 h3 => ?_⟩
    obtain ⟨q1, q2⟩ := s2 c t h0 h1 h2 h3
    exact ⟨(s1 c t h0 h1 h2 h3).trans q1, (s1.u hW hb h0 h1 h2 h3).trans q2⟩
theorem St.same (hW : Way n W) {k j : Nat} (s : St n W k) (s' : St n W j) (hk : k ≤ 890) (hj : j ≤ 890) {c t : Int} (h0 : 0 ≤ c) (h1 : c < n) (h2 : 0 ≤ t) (h3 : t < n) : V W k c t = V W j c t ∧ U W k c t = U W j c t := by
  rcases Nat.le_total k j with h | h
  · obtain ⟨d, rfl⟩ := Nat.exists_eq_add_of_le h
    have := (s.all hW d hj).2 c t h0 h1 h2 h3
    exact ⟨this.1.symm, this.2.symm⟩
  · obtain ⟨d, rfl⟩ := Nat.exists_eq_add_of_le h
    exact (s'.all hW d hk).2 c t h0 h1 h2 h3
/-! ### how many rounds -/
def prs (n : Int) : List (Int × Int) := (rn n).flatMap fun c => (rn n).map fun t => (c, t)
theorem mem_prs {c t : Int} : (c, t) ∈ prs n ↔ (0 ≤ c ∧ c < n) ∧ 0 ≤ t ∧ t < n := by
  unfold prs
  rw [List.mem_flatMap]
  constructor
  · rintro ⟨a, ha, h⟩
    obtain ⟨b, hb, e⟩ := List.mem_map.mp h
    injection e with e1 e2
    subst e1 e2
    exact ⟨mem_rn.mp ha, mem_rn.mp hb⟩
  · rintro ⟨h1, h2⟩
    exact ⟨c, mem_rn.mpr h1, List.mem_map.mpr ⟨t, mem_rn.mpr h2, rfl⟩⟩
theorem prs_len (n : Int) : (prs n).length = n.toNat * n.toNat := by
  unfold prs
  have : ∀ l : List Int, (l.flatMap fun c => (rn n).map fun t => (c, t)).length = l.length * n.toNat := fun l => by
    induction l with
    | nil => simp
    | cons a l ih => rw [List.flatMap_cons, List.length_append, ih, List.length_map, rn_len, List.length_cons, Nat.add_mul]; omega
  rw [this, rn_len]
theorem countP_lt {α : Type} {f f' : α → Bool} (h : ∀ x, f x = true → f' x = true) {y : α} (hy : f y = false) (hy' : f' y = true) : ∀ {l : List α}, y ∈ l → l.countP f < l.countP f'
  | x :: l, m => by
    have mono : l.countP f ≤ l.countP f' := List.countP_mono_left fun x _ => h x
    rw [List.countP_cons, List.countP_cons]
    by_cases c : x = y
    · subst c; rw [hy, hy']; simp; omega
    · have ih := countP_lt h hy hy' ((List.mem_cons.mp m).resolve_left fun e => c e.symm)
      have := h x
      cases e : f x with
      | true => rw [this e]; simp; omega
      | false => simp; split <;> omega
def cn (n : Int) (W : List (List Int)) (k : Nat) : Nat := (prs n).countP fun p => !decide (V W k p.1 p.2 = 1000)
theorem cn_le (k : Nat) : cn n W k ≤ n.toNat * n.toNat := by
  unfold cn; rw [← prs_len]; exact List.countP_le_length
theorem cn_lt {k : Nat} (h : ¬ St n W k) : cn n W k < cn n W (k + 1) := by
  unfold St at h
  have : ∃ c t, (0 ≤ c ∧ c < n) ∧ (0 ≤ t ∧ t < n) ∧ V W (k + 1) c t ≠ V W k c t := Classical.byContradiction fun z => h fun c t h0 h1 h2 h3 => Classical.byContradiction fun w => z ⟨c, t, ⟨h0, h1⟩, ⟨h2, h3⟩, w⟩
  obtain ⟨c, t, h1, h2, w⟩ := this
  have e1 : V W k c t = 1000 := Classical.byContradiction fun z => w (V_up z)
  refine countP_lt (y := (c, t)) (fun p hp => ?_) ?_ ?_ (mem_prs.mpr ⟨h1, h2⟩)
  · have : V W k p.1 p.2 ≠ 1000 := by simpa using hp
    rw [V_up this]; exact hp
  · rw [e1]; rfl
  · have : V W (k + 1) c t ≠ 1000 := fun z => w (z.trans e1.symm)
    simpa using this
end LW
set_option Elab.async false
set_option linter.all false
set_option maxRecDepth 100000
set_option maxHeartbeats 2000000
namespace LW
open PySem PySem.Spec PyProof.Rows L2 DL TL
variable {n : Int} {W : List (List Int)}
theorem foldmin : ∀ (xs : List Int) (a : Int), xs.foldl min a ∈ a :: xs ∧ ∀ y ∈ a :: xs, xs.foldl min a ≤ y
  | [], a => ⟨List.mem_cons_self, fun y hy => by rw [List.mem_singleton.mp hy]; exact Int.le_refl _⟩
  | x :: xs, a => by
    obtain ⟨h1, h2⟩ := foldmin xs (min a x)
    rw [List.foldl_cons]
    refine ⟨?_, fun y hy => ?_⟩
    · rcases List.mem_cons.mp h1 with e | e
      · rw [e]
        rcases Int.le_total a x with z | z
        · rw [Int.min_eq_left z]; exact List.mem_cons_self
        · rw [Int.min_eq_right z]; exact List.mem_cons_of_mem _ List.mem_cons_self
      · exact List.mem_cons_of_mem _ (List.mem_cons_of_mem _ e)
    · have m0 := h2 (min a x) List.mem_cons_self
      rcases List.mem_cons.mp hy with e | e
      · rw [e]; omega
      · rcases List.mem_cons.mp e with e | e
        · rw [e]; omega
        · exact h2 y (List.mem_cons_of_mem _ e)
theorem foldmax : ∀ (xs : List Int) (a : Int), xs.foldl max a ∈ a :: xs ∧ ∀ y ∈ a :: xs, y ≤ xs.foldl max a
  | [], a => ⟨List.mem_cons_self, fun y hy => by rw [List.mem_singleton.mp hy]; exact Int.le_refl _⟩
  | x :: xs, a => by
    obtain ⟨h1, h2⟩ := foldmax xs (max a x)
    rw [List.foldl_cons]
    refine ⟨?_, fun y hy => ?_⟩
    · rcases List.mem_cons.mp h1 with e | e
      · rw [e]
        rcases Int.le_total a x with z | z
        · rw [Int.max_eq_right z]; exact List.mem_cons_of_mem _ List.mem_cons_self
        · rw [Int.max_eq_left z]; exact List.mem_cons_self
      · exact List.mem_cons_of_mem _ (List.mem_cons_of_mem _ e)
    · have m0 := h2 (max a x) List.mem_cons_self
      rcases List.mem_cons.mp hy with e | e
      · rw [e]; omega
      · rcases List.mem_cons.mp e with e | e
        · rw [e]; omega
        · exact h2 y (List.mem_cons_of_mem _ e)
theorem minI_of {xs : List Int} {m : Int} (h : m ∈ xs) (h2 : ∀ x ∈ xs, m ≤ x) : minI xs = some m := by
  cases xs with
  | nil => exact (List.not_mem_nil h).elim
  | cons a xs =>
    obtain ⟨q1, q2⟩ := foldmin xs a
    exact congrArg some (Int.le_antisymm (q2 m h) (h2 _ q1))
theorem maxI_of {xs : List Int} {m : Int} (h : m ∈ xs) (h2 : ∀ x ∈ xs, x ≤ m) : maxI xs = some m := by
  cases xs with
  | nil => exact (List.not_mem_nil h).elim
  | cons a xs =>
    obtain ⟨q1, q2⟩ := foldmax xs a
    exact congrArg some (Int.le_antisymm (h2 _ q1) (q2 m h))
def mat (n : Int) (f : Int → Int → Int) : List (List Int) := (rn n).map fun c => (rn n).map (f c)
theorem mat_row (f : Int → Int → Int) {c : Int} (h : 0 ≤ c) (h1 : c < n) : L2.atI (mat n f) c = some ((rn n).map (f c)) := atI_rn (fun c => (rn n).map (f c)) h h1
theorem mat_at (f : Int → Int → Int) {c t : Int} (h : 0 ≤ c) (h1 : c < n) (h2 : 0 ≤ t) (h3 : t < n) : ((L2.atI (mat n f) c).bind fun v => L2.atI v t) = some (f c t) := ob_o (mat_row f h h1) (atI_rn (f c) h2 h3)
theorem mat_inj {f g : Int → Int → Int} (e : mat n f = mat n g) {c t : Int} (h : 0 ≤ c) (h1 : c < n) (h2 : 0 ≤ t) (h3 : t < n) : f c t = g c t := by
  have a := mat_at f h h1 h2 h3
  rw [e, mat_at g h h1 h2 h3] at a
  injection a with a; exact a.symm
theorem mat_ext {f g : Int → Int → Int} (h : ∀ c t, 0 ≤ c → c < n → 0 ≤ t → t < n → f c t = g c t) : mat n f = mat n g :=
  List.map_congr_left fun c hc => List.map_congr_left fun t ht => h c t (mem_rn.mp hc).1 (mem_rn.mp hc).2 (mem_rn.mp ht).1 (mem_rn.mp ht).2
theorem way_at (hW : Way n W) {a : Int} (h : 0 ≤ a) (h1 : a < n) : L2.atI W a = some (wy W a) := atI_ok [] h (by rw [hW.len]; omega)
theorem hv_ok (hW : Way n W) {k : Nat} (hk : k ≤ 900) {o t : Int} (ho : 0 ≤ o) (ho1 : o < n) (h2 : 0 ≤ t) (h3 : t < n) :
    (if (decide (o = t)) = true then (some (0 : Int)) else ((L2.atI W t).bind fun v21 => ((tcomp v21 (fun y22 => (some true)) (fun y22 => ((L2.atI (mat n (V W k)) o).bind fun v23 => (L2.atI v23 y22)))).bind fun v25 => (maxI v25)))) = some (U W k o t) := by
  by_cases c : o = t
  · rw [if_pos (decide_eq_true c), c, U_self]
  · rw [if_neg (by simpa using c)]
    obtain ⟨⟨a, ha, ea⟩, w⟩ := maxU hW k hk h2 h3 c
    refine ob_o (way_at hW h2 h3) (ob_o (tcomp_all (V W k o) (by have := hW.few t h2 h3; have := szl; omega) fun y hy => mat_at _ ho ho1 (hW.rg t h2 h3 y hy).1 (hW.rg t h2 h3 y hy).2) ?_)
    refine maxI_of (List.mem_map.mpr ⟨a, ha, ea⟩) fun x hx => ?_
    obtain ⟨y, hy, rfl⟩ := List.mem_map.mp hx
    exact w y hy
theorem min_ok (hW : Way n W) {k : Nat} (hk : k ≤ 890) {c t : Int} (h : 0 ≤ c) (h1 : c < n) (hct : c ≠ t) : ∃ m, minI ((wy W c).map fun o => U W k o t) = some m ∧ min2 1000 (1 + m) = V W (k + 1) c t := by
  rcases minV k (by omega) hct with ⟨e, w⟩ | ⟨j, e, hj, ⟨o, ho, w⟩, w2⟩
  · refine ⟨1000, minI_of (List.mem_map.mpr ⟨c, hW.self c h h1, w c (hW.self c h h1)⟩) fun x hx => ?_, by rw [e]; rfl⟩
    obtain ⟨y, hy, rfl⟩ := List.mem_map.mp hx
    rw [w y hy]; exact Int.le_refl _
  · refine ⟨j, minI_of (List.mem_map.mpr ⟨o, ho, w⟩) fun x hx => ?_, ?_⟩
    · obtain ⟨y, hy, rfl⟩ := List.mem_map.mp hx
      exact w2 y hy
    · rw [e]; unfold min2; rw [if_pos (by omega)]; omega
theorem law_times_ok (hW : Way n W) (h1 : 1 ≤ n) (h2 : n ≤ 24) : ∃ k, k ≤ 600 ∧ St n W k ∧ t_law_times_u n W = .ok (mat n (V W k)) := by
  have sq : n.toNat * n.toNat ≤ 24 * 24 := Nat.mul_le_mul (by omega) (by omega)
  have sqi : n * n = ((n.toNat * n.toNat : Nat) : Int) := by rw [Int.natCast_mul]; congr 1 <;> omega
  have X : ∃ r, t_law_times_u n W = .ok r ∧ ∃ k, k ≤ 600 ∧ St n W k ∧ r = mat n (V W k) := by
    unfold t_law_times_u
    simp only [tlet_eq]
    refine fin_run (Q := fun (r : List (List Int)) => ∃ k, k ≤ 600 ∧ St n W k ∧ r = mat n (V W k)) ?_
    refine fin_ob _ (rgO1_ok (by omega) (by omega)) (fin_ob (mat n (V W 0)) ?_ ?_)
    · refine tcomp_all (fun c => (rn n).map (V W 0 c)) (by rw [rgL_len, szl]; omega) fun c _ => ?_
      refine ob_o (rgO1_ok (by omega) (by omega)) ?_
      refine tcomp_all (V W 0 c) (by rw [rgL_len, szl]; omega) fun t _ => congrArg some ?_
      rw [V_zero]
      by_cases e : c = t
      · rw [if_pos (decide_eq_true e), if_pos e]
      · rw [if_neg (by simpa using e), if_neg e]
    refine fin_ob (n * n) ?_ (fin_ob _ (rgO1_ok (by omega) (by omega)) ?_)
    · unfold mulO; rw [if_pos]; unfold fitMul; simp; omega
    rw [show (n * n + 1).toNat = n.toNat * n.toNat + 1 by omega]
    refine fin_bind (tfor_rg (fun k s => s = mat n (V W k) ∧ k ≤ cn n W k) _ (fun k s hk i => ?_) ⟨rfl, Nat.zero_le _⟩) fun s i => ?_
    · obtain ⟨rfl, i2⟩ := i
      refine fin_ob (mat n (V W k)) ?_ (fin_ob _ (rgO1_ok (by omega) (by omega)) ?_)
      · exact (tcomp_all (fun x => x) (by unfold mat; rw [List.length_map, rn_len, szl]; omega) fun _ _ => rfl).trans (by rw [List.map_id'])
      refine fin_bind (I := fun s => s = mat n (V W (k + 1))) ?_ fun s is => ?_
      · have R := tfor_rg (τ := List (List Int)) (ρ := List (List Int)) (n := n.toNat) (b := fun s15 y14 =>
  (obind (rgO1 n) fun v16 =>
  ((tfor v16 s15 (fun s18 y17 =>
  (if (!decide (y14 = y17)) = true then (obind (L2.atI W y14) fun v19 =>
  (obind (tcomp v19 (fun y20 => (some true)) (fun y20 => (if (decide (y20 = y17)) = true then (some (0 : Int)) else ((L2.atI W y17).bind fun v21 => ((tcomp v21 (fun y22 => (some true)) (fun y22 => ((L2.atI (mat n (V W k)) y20).bind fun v23 => (L2.atI v23 y22)))).bind fun v25 => (maxI v25)))))) fun v28 =>
  (obind (minI v28) fun v29 =>
  (obind (L2.atI s18 y14) fun v30 =>
  (obind (setO v30 y17 (min2 (1000 : Int) ((1 : Int) + v29))) fun c31 => .nx (setI s18 y14 c31)))))) else .nx s18)) : TF _ (List (List Int)) _).bind fun s18 =>
  .nx s18))) (fun c s => ∃ f, s = mat n f ∧ ∀ x y, 0 ≤ x → x < n → 0 ≤ y → y < n → f x y = if x < c then V W (k + 1) x y else V W k x y) (fun r => ∃ k, k ≤ 600 ∧ St n W k ∧ r = mat n (V W k)) (fun c s hc i => ?_) (s := mat n (V W k)) ⟨_, rfl, fun x y _ _ _ _ => by rw [if_neg (by omega)]⟩
        · revert R
          generalize (tfor (rgL 0 n.toNat 1) (mat n (V W k)) _ : TF (List (List Int)) (List (List Int)) (List (List Int))) = T
          intro R
          cases T with
          | nx s =>
            obtain ⟨f, rfl, hf⟩ := R
            exact mat_ext fun x y h0 h1 h2 h3 => (hf x y h0 h1 h2 h3).trans (if_pos (by omega))
          | rt r => exact R
          | _ => exact R.elim
        · obtain ⟨f0, rfl, hf0⟩ := i
          refine fin_ob _ (rgO1_ok (by omega) (by omega)) ?_
          refine fin_bind (tfor_rg (fun t s => ∃ f, s = mat n f ∧ ∀ x y, 0 ≤ x → x < n → 0 ≤ y → y < n → f x y = if x < c ∨ (x = c ∧ y < t) then V W (k + 1) x y else V W k x y) _ (fun t s ht i => ?_) ⟨f0, rfl, fun x y h0 h1 h2 h3 => ?_⟩) fun s i => ?_
          · obtain ⟨f, rfl, hf⟩ := i
            refine fin_if (fun d => ?_) fun d => ?_
            · have hct : (c : Int) ≠ t := by simpa using d
              obtain ⟨m, em, ev⟩ := min_ok hW (k := k) (t := (t : Int)) (by omega) (show (0 : Int) ≤ c by omega) (by omega) hct
              refine fin_ob _ (way_at hW (by omega) (by omega)) ?_
              refine fin_ob _ (tcomp_all (fun o => U W k o t) (by have := hW.few c (by omega) (by omega); have := szl; omega) fun o ho => hv_ok hW (by omega) (hW.rg c (by omega) (by omega) o ho).1 (hW.rg c (by omega) (by omega) o ho).2 (by omega) (by omega)) ?_
              refine fin_ob _ em (fin_ob _ (mat_row f (by omega) (by omega)) (fin_ob _ (setO_rn (f c) _ (by omega) (by omega)) ?_))
              refine ⟨fun x => if x = (c : Int) then up (f c) (t : Int) (min2 1000 (1 + m)) else f x, ?_, fun x y h0 h1 h2 h3 => ?_⟩
              · rw [setI_ok _ (by omega) (by unfold mat; rw [List.length_map, rn_len]; omega)]
                unfold mat
                rw [set_rn _ _ (by omega) (by omega)]
                refine List.map_congr_left fun x _ => ?_
                show (if x = (c : Int) then (rn n).map (up (f c) (t : Int) (min2 1000 (1 + m))) else (rn n).map (f x)) = (rn n).map (if x = (c : Int) then up (f c) (t : Int) (min2 1000 (1 + m)) else f x)
                by_cases e : x = (c : Int)
                · rw [if_pos e, if_pos e]
                · rw [if_neg e, if_neg e]
              · show (if x = (c : Int) then up (f c) (t : Int) (min2 1000 (1 + m)) else f x) y = _
                by_cases e : x = (c : Int)
                · rw [if_pos e]
                  unfold up
                  by_cases e2 : y = (t : Int)
                  · rw [if_pos e2, ev, if_pos (by omega), e, e2]
                  · rw [if_neg e2, ← e, hf x y h0 h1 h2 h3]
                    by_cases e3 : x < c ∨ (x = c ∧ y < t)
                    · rw [if_pos e3, if_pos (by omega)]
                    · rw [if_neg e3, if_neg (by omega)]
                · rw [if_neg e, hf x y h0 h1 h2 h3]
                  by_cases e3 : x < c ∨ (x = c ∧ y < t)
                  · rw [if_pos e3, if_pos (by omega)]
                  · rw [if_neg e3, if_neg (by omega)]
            · have hct : (c : Int) = t := by simpa using d
              refine ⟨f, rfl, fun x y h0 h1 h2 h3 => ?_⟩
              rw [hf x y h0 h1 h2 h3]
              by_cases e3 : x < c ∨ (x = c ∧ y < t)
              · rw [if_pos e3, if_pos (by omega)]
              · rw [if_neg e3]
                by_cases e4 : x = (c : Int) ∧ y = (t : Int)
                · rw [if_pos (by omega), e4.1, e4.2, ← hct, V_self, V_self]
                · rw [if_neg (by omega)]
          · rw [hf0 x y h0 h1 h2 h3]
            by_cases e3 : x < c
            · rw [if_pos e3, if_pos (by omega)]
            · rw [if_neg e3, if_neg (by omega)]
          · obtain ⟨f, rfl, hf⟩ := i
            refine ⟨f, rfl, fun x y h0 h1 h2 h3 => ?_⟩
            rw [hf x y h0 h1 h2 h3]
            by_cases e3 : x < c ∨ (x = c ∧ y < (n.toNat : Int))
            · rw [if_pos e3, if_pos (by omega)]
            · rw [if_neg e3, if_neg (by omega)]
      · subst is
        refine fin_if (fun d => ?_) fun d => ?_
        · have e : mat n (V W (k + 1)) = mat n (V W k) := by simpa using d
          exact fin_up ⟨k, by omega, fun c t h0 h1 h2 h3 => mat_inj e h0 h1 h2 h3, rfl⟩
        · have ns : ¬ St n W k := fun st => by
            have : mat n (V W (k + 1)) = mat n (V W k) := mat_ext st
            rw [decide_eq_true this] at d; cases d
          have := cn_lt ns
          exact ⟨rfl, by omega⟩
    · have := cn_le (n := n) (W := W) (n.toNat * n.toNat + 1)
      have := i.2
      exact absurd this (by omega)
  obtain ⟨r, e, k, hk, st, rfl⟩ := X
  exact ⟨k, hk, st, e⟩
end LW
set_option Elab.async false
set_option linter.all false
set_option maxRecDepth 100000
set_option maxHeartbeats 2000000
namespace LW
open PySem PySem.Spec PyProof.Rows L2 DL TL
variable {n : Int} {W : List (List Int)}
/-! ### dicts of times -/
section
variable {κ β : Type} [DecidableEq κ]
theorem getM_none (k : κ) : ∀ m : List (κ × β), getM m k = none ↔ k ∉ m.map Prod.fst
  | [] => by simp [getM]
  | p :: m => by
    have ih := getM_none k m
    unfold getM at ih ⊢
    rw [List.lookup_cons, List.map_cons, List.mem_cons]
    by_cases c : k = p.1
    · simp [c]
    · have : (k == p.1) = false := by simpa using c
      simp only [this, c, false_or]; exact ih
theorem getM_app (k : κ) (v : β) (x : κ) : ∀ m : List (κ × β), getM (m ++ [(k, v)]) x = (getM m x).or (if x = k then some v else none)
  | [] => by
    unfold getM
    rw [List.nil_append, List.lookup_cons]
    by_cases c : x = k
    · simp [c]
    · have : (x == k) = false := by simpa using c
      simp [this, c]
  | p :: m => by
    have ih := getM_app k v x m
    unfold getM at ih ⊢
    rw [List.cons_append, List.lookup_cons, List.lookup_cons]
    cases (x == p.1) with
    | true => rfl
    | false => exact ih
theorem getM_cat (x : κ) : ∀ m m2 : List (κ × β), getM (m ++ m2) x = (getM m x).or (getM m2 x)
  | [], m2 => by simp [getM]
  | p :: m, m2 => by
    have ih := getM_cat x m m2
    unfold getM at ih ⊢
    rw [List.cons_append, List.lookup_cons, List.lookup_cons]
    cases (x == p.1) with
    | true => rfl
    | false => exact ih
theorem fold_app : ∀ (m2 m : List (κ × β)), (m2.map Prod.fst).Nodup → (∀ k ∈ m2.map Prod.fst, k ∉ m.map Prod.fst) → m2.foldl (fun a p => putA a p.1 p.2) m = m ++ m2
  | [], m, _, _ => by simp
  | p :: m2, m, nd, h => by
    have nd' := List.nodup_cons.mp nd
    rw [List.foldl_cons, show putA m p.1 p.2 = m ++ [p] from if_neg (h p.1 List.mem_cons_self), fold_app m2 _ nd'.2 fun k hk w => ?_]
    · simp
    · rw [List.map_append, List.mem_append] at w
      rcases w with w | w
      · exact h k (List.mem_cons_of_mem _ hk) w
      · rw [List.mem_singleton.mp w] at hk; exact nd'.1 hk
end
structure DR (n : Int) (m : List ((Int × Int) × Int)) (f : Int → Int → Int) : Prop where
  nd : (m.map Prod.fst).Nodup
  rg : ∀ p ∈ m.map Prod.fst, p ∈ prs n
  get : ∀ c t, 0 ≤ c → c < n → 0 ≤ t → t < n → getM m (c, t) = if f c t = 1000 then none else some (f c t)
theorem sub_len {α : Type} [DecidableEq α] : ∀ {l m : List α}, l.Nodup → (∀ x ∈ l, x ∈ m) → l.length ≤ m.length
  | [], m, _, _ => Nat.zero_le _
  | a :: l, m, h, s => by
    have h' := List.nodup_cons.mp h
    have ha := s a List.mem_cons_self
    have := sub_len (m := m.erase a) h'.2 fun x hx => (List.mem_erase_of_ne fun (e : x = a) => h'.1 (e ▸ hx)).mpr (s x (List.mem_cons_of_mem _ hx))
    rw [List.length_erase_of_mem ha] at this
    have : 0 < m.length := List.length_pos_of_mem ha
    rw [List.length_cons]; omega
theorem DR.len {m : List ((Int × Int) × Int)} {f : Int → Int → Int} (h : DR n m f) : m.length ≤ n.toNat * n.toNat := by
  have := sub_len h.nd h.rg
  rw [List.length_map, prs_len] at this; exact this
theorem memL_t {α : Type} [DecidableEq α] {x : α} {l : List α} (h : x ∈ l) : memL x l = true := decide_eq_true h
theorem memL_f {α : Type} [DecidableEq α] {x : α} {l : List α} (h : x ∉ l) : memL x l = false := decide_eq_false h
theorem DR.mem {m : List ((Int × Int) × Int)} {f : Int → Int → Int} (h : DR n m f) {c t : Int} (h0 : 0 ≤ c) (h1 : c < n) (h2 : 0 ≤ t) (h3 : t < n) : memL (c, t) (m.map Prod.fst) = !decide (f c t = 1000) := by
  have e := h.get c t h0 h1 h2 h3
  by_cases d : f c t = 1000
  · rw [if_pos d] at e
    rw [decide_eq_true d, Bool.not_true]
    exact memL_f ((getM_none _ _).mp e)
  · rw [if_neg d] at e
    rw [decide_eq_false d, Bool.not_false]
    refine memL_t (Classical.byContradiction fun z => ?_)
    rw [(getM_none _ _).mpr z] at e; cases e
theorem DR.congr {m : List ((Int × Int) × Int)} {f g : Int → Int → Int} (h : DR n m f) (e : ∀ c t, 0 ≤ c → c < n → 0 ≤ t → t < n → f c t = g c t) : DR n m g :=
  ⟨h.nd, h.rg, fun c t h0 h1 h2 h3 => by rw [← e c t h0 h1 h2 h3]; exact h.get c t h0 h1 h2 h3⟩
theorem DR.put (hn : n ≤ 24) {m : List ((Int × Int) × Int)} {f : Int → Int → Int} (h : DR n m f) {c t v : Int} (h0 : 0 ≤ c) (h1 : c < n) (h2 : 0 ≤ t) (h3 : t < n) (hf : f c t = 1000) (hv : v ≠ 1000) :
    ∃ m', putM m (c, t) v = some m' ∧ DR n m' (fun x y => if x = c ∧ y = t then v else f x y) := by
  have hl := h.len
  have sq : n.toNat * n.toNat ≤ 24 * 24 := Nat.mul_le_mul (by omega) (by omega)
  have no : (c, t) ∉ m.map Prod.fst := (getM_none _ _).mp (by rw [h.get c t h0 h1 h2 h3, if_pos hf])
  refine ⟨m ++ [((c, t), v)], by unfold putM putA; rw [if_pos (by have := szl; omega), if_neg no], ?_, ?_, ?_⟩
  · rw [List.map_append]
    refine List.nodup_append.mpr ⟨h.nd, by simp, fun a ha b hb e => ?_⟩
    subst e
    rw [List.mem_singleton.mp hb] at ha; exact no ha
  · intro p hp
    rw [List.map_append] at hp
    rcases List.mem_append.mp hp with w | w
    · exact h.rg p w
    · rw [List.mem_singleton.mp w]; exact mem_prs.mpr ⟨⟨h0, h1⟩, h2, h3⟩
  · intro x y g0 g1 g2 g3
    rw [getM_app, h.get x y g0 g1 g2 g3]
    by_cases e : x = c ∧ y = t
    · obtain ⟨rfl, rfl⟩ := e
      rw [if_pos hf, if_pos (show (x, y) = (x, y) from rfl), if_pos (show x = x ∧ y = y from ⟨rfl, rfl⟩), if_neg hv]; rfl
    · rw [if_neg e, if_neg (fun z : (x, y) = (c, t) => e ⟨by injection z, by injection z⟩), Option.or_none]
theorem DR.cat {m m2 : List ((Int × Int) × Int)} {f f2 : Int → Int → Int} (hn1 : 1 ≤ n) (hn : n ≤ 24) (h : DR n m f) (h2 : DR n m2 f2) (h00 : f 0 0 ≠ 1000) (dis : ∀ c t, 0 ≤ c → c < n → 0 ≤ t → t < n → f2 c t ≠ 1000 → f c t = 1000) :
    ∃ m', updM m m2 = some m' ∧ DR n m' (fun x y => if f x y = 1000 then f2 x y else f x y) := by
  have sq : n.toNat * n.toNat ≤ 24 * 24 := Nat.mul_le_mul (by omega) (by omega)
  have l1 := h.len
  have l2 := h2.len
  have ne : m.isEmpty = false := by
    cases m with
    | nil =>
      have := h.get 0 0 (by omega) (by omega) (by omega) (by omega)
      rw [if_neg h00] at this; cases this
    | cons _ _ => rfl
  have apart : ∀ k ∈ m2.map Prod.fst, k ∉ m.map Prod.fst := fun k hk w => by
    obtain ⟨c, t⟩ := k
    obtain ⟨⟨a0, a1⟩, a2, a3⟩ := mem_prs.mp (h2.rg _ hk)
    have e2 : f2 c t ≠ 1000 := fun z => (getM_none _ _).mp (by rw [h2.get c t a0 a1 a2 a3, if_pos z]) hk
    exact (getM_none _ _).mp (by rw [h.get c t a0 a1 a2 a3, if_pos (dis c t a0 a1 a2 a3 e2)]) w
  refine ⟨m ++ m2, by unfold updM; rw [if_pos ⟨ne, by omega⟩, fold_app m2 m h2.nd apart], ?_, ?_, ?_⟩
  · rw [List.map_append]
    exact List.nodup_append.mpr ⟨h.nd, h2.nd, fun a ha b hb e => apart b hb (e ▸ ha)⟩
  · intro p hp
    rw [List.map_append] at hp
    exact (List.mem_append.mp hp).elim (h.rg p) (h2.rg p)
  · intro x y g0 g1 g2 g3
    rw [getM_cat, h.get x y g0 g1 g2 g3, h2.get x y g0 g1 g2 g3]
    by_cases e : f x y = 1000
    · rw [if_pos e, if_pos e]; rfl
    · rw [if_neg e, if_neg e, if_neg e]; rfl
theorem DR.nil : DR n [] (fun _ _ => 1000) := ⟨.nil, fun p hp => (List.not_mem_nil hp).elim, fun c t _ _ _ _ => by rw [if_pos rfl]; rfl⟩
theorem DR.zero (h1 : 1 ≤ n) (h2 : n ≤ 24) : ∃ m, tdcM (rn n) (fun _ => some true) (fun y => some (y, y)) (fun _ => some (0 : Int)) [] = some m ∧ DR n m (V W 0) ∧ DR n m (U W 0) := by
  have key : ∀ (l : List Int) (m : List ((Int × Int) × Int)) (f : Int → Int → Int), (∀ a ∈ l, 0 ≤ a ∧ a < n) → l.Nodup → DR n m f → (∀ a ∈ l, f a a = 1000) → ∃ m', tdcM l (fun _ => some true) (fun y => some (y, y)) (fun _ => some (0 : Int)) m = some m' ∧ DR n m' (fun x y => if x = y ∧ x ∈ l then 0 else f x y) := by
    intro l
    induction l with
    | nil => intro m f _ _ d _; exact ⟨m, rfl, d.congr fun c t _ _ _ _ => by rw [if_neg]; rintro ⟨_, w⟩; exact List.not_mem_nil w⟩
    | cons a l ih =>
      intro m f hr nd d hf
      have nd' := List.nodup_cons.mp nd
      have ra := hr a List.mem_cons_self
      obtain ⟨m', e, d'⟩ := d.put h2 ra.1 ra.2 ra.1 ra.2 (hf a List.mem_cons_self) (v := 0) (by decide)
      obtain ⟨m2, e2, d2⟩ := ih m' _ (fun b hb => hr b (List.mem_cons_of_mem _ hb)) nd'.2 d' fun b hb => by
        show (if b = a ∧ b = a then (0 : Int) else f b b) = 1000
        rw [if_neg fun (z : b = a ∧ b = a) => nd'.1 (z.1 ▸ hb)]; exact hf b (List.mem_cons_of_mem _ hb)
      refine ⟨m2, ?_, d2.congr fun c t _ _ _ _ => ?_⟩
      · unfold tdcM
        simp only [obS, if_true, e]; exact e2
      · by_cases z : c = t
        · subst z
          by_cases z2 : c = a
          · subst z2; simp
          · simp [z2]
        · simp [z]; omega
  obtain ⟨m, e, d⟩ := key (rn n) [] _ (fun a ha => mem_rn.mp ha) (rn_nodup n) DR.nil fun _ _ => rfl
  refine ⟨m, e, d.congr fun c t h0 h1 h2 h3 => ?_, d.congr fun c t h0 h1 h2 h3 => ?_⟩
  · rw [V_zero]
    by_cases z : c = t
    · rw [if_pos ⟨z, mem_rn.mpr ⟨h0, h1⟩⟩, if_pos z]
    · rw [if_neg fun w => z w.1, if_neg z]
  · rw [U_zero]
    by_cases z : c = t
    · rw [if_pos ⟨z, mem_rn.mpr ⟨h0, h1⟩⟩, if_pos z]
    · rw [if_neg fun w => z w.1, if_neg z]
end LW
set_option Elab.async false
set_option linter.all false
set_option maxRecDepth 100000
set_option maxHeartbeats 2000000
namespace LW
open PySem PySem.Spec PyProof.Rows L2 DL TL
variable {n : Int} {W : List (List Int)}
theorem opt_ok {α : Type} {r : R α} {x : α} (h : r = .ok x) : opt r = some x := by rw [h]; rfl
theorem run_to {ρ : Type} {t : TF Unit Empty ρ} {r : ρ} (h : t = .rt r) : TF.run' t = .ok r := by rw [h]; rfl
theorem runI_to {σ : Type} {t : TF Unit σ Unit} {s : σ} (h : t = .nx s) : TF.runI t = .ok s := by rw [h]; rfl
/-! ### one round of the program -/
theorem step_ok {N : T_Net} (hN : N.1 = n) (h1 : 1 ≤ n) (h2 : n ≤ 24) (hW : Way n W) (hw : ∀ p, 0 ≤ p → p < n → t_Net_ways N p = .ok (wy W p)) {k : Nat} (hk : k ≤ 900) {m1 m2 : List ((Int × Int) × Int)} (d1 : DR n m1 (V W k)) (d2 : DR n m2 (U W k)) :
    ∃ b m1' m2', t_Times_step_u (N, m1, m2) (k : Int) = .ok (b, (N, m1', m2')) ∧ DR n m1' (V W (k + 1)) ∧ DR n m2' (U W (k + 1)) ∧ (b = false → St n W k) ∧ (b = true → ¬ St n W k) := by
  have X : ∃ r, t_Times_step_u (N, m1, m2) (k : Int) = .ok r ∧ r.2.1 = N ∧ DR n r.2.2.1 (V W (k + 1)) ∧ DR n r.2.2.2 (U W (k + 1)) ∧ (r.1 = false → St n W k) ∧ (r.1 = true → ¬ St n W k) := by
    unfold t_Times_step_u
    simp only [tlet_eq]
    refine fin_run (Q := fun (r : Bool × T_Times) => r.2.1 = N ∧ DR n r.2.2.1 (V W (k + 1)) ∧ DR n r.2.2.2 (U W (k + 1)) ∧ (r.1 = false → St n W k) ∧ (r.1 = true → ¬ St n W k)) ?_
    rw [hN]
    refine fin_ob _ (rgO1_ok (by omega) (by omega)) ?_
    refine fin_bind (tfor_rg (fun c s => ∃ f, DR n s f ∧ ∀ x y, 0 ≤ x → x < n → 0 ≤ y → y < n → f x y = if x < c ∧ V W k x y = 1000 then V W (k + 1) x y else 1000) _ (fun c s hc i => ?_) ⟨_, DR.nil, fun x y _ _ _ _ => by rw [if_neg (by omega)]⟩) fun s i => ?_
    · obtain ⟨f0, df0, hf0⟩ := i
      refine fin_ob _ (rgO1_ok (by omega) (by omega)) ?_
      refine fin_bind (tfor_rg (fun t s => ∃ f, DR n s f ∧ ∀ x y, 0 ≤ x → x < n → 0 ≤ y → y < n → f x y = if (x < c ∨ (x = c ∧ y < t)) ∧ V W k x y = 1000 then V W (k + 1) x y else 1000) _ (fun t s ht i => ?_) ⟨f0, df0, fun x y g0 g1 g2 g3 => ?_⟩) fun s i => ?_
      · obtain ⟨f, df, hf⟩ := i
        have same : ∀ (z : V W k (c : Int) (t : Int) ≠ 1000 ∨ V W (k + 1) (c : Int) (t : Int) = 1000), ∃ f, DR n s f ∧ ∀ x y, 0 ≤ x → x < n → 0 ≤ y → y < n → f x y = if (x < c ∨ (x = c ∧ y < ((t + 1 : Nat) : Int))) ∧ V W k x y = 1000 then V W (k + 1) x y else 1000 := fun z => by
          refine ⟨f, df, fun x y g0 g1 g2 g3 => ?_⟩
          rw [hf x y g0 g1 g2 g3]
          by_cases e : x = (c : Int) ∧ y = (t : Int)
          · obtain ⟨rfl, rfl⟩ := e
            rw [if_neg (by omega)]
            rcases z with z | z
            · rw [if_neg fun w => z w.2]
            · split
              · exact z.symm
              · rfl
          · by_cases e2 : (x < c ∨ (x = c ∧ y < t)) ∧ V W k x y = 1000
            · rw [if_pos e2, if_pos ⟨by omega, e2.2⟩]
            · rw [if_neg e2, if_neg fun w => e2 ⟨by omega, w.2⟩]
        rw [d1.mem (by omega) (by omega) (by omega) (by omega)]
        refine fin_if (fun z => ?_) fun z => same (.inl (by simpa using z))
        have hv : V W k (c : Int) (t : Int) = 1000 := by simpa using z
        refine fin_ob _ (opt_ok (hw _ (by omega) (by omega))) ?_
        refine fin_ob _ (tcomp_all (fun y8 => !decide (U W k y8 t = 1000)) (by have := hW.few c (by omega) (by omega); have := szl; omega) fun y hy => congrArg some (d2.mem (hW.rg c (by omega) (by omega) y hy).1 (hW.rg c (by omega) (by omega) y hy).2 (by omega) (by omega))) ?_
        have ev : V W (k + 1) (c : Int) (t : Int) = if ((wy W c).any fun o => !decide (U W k o t = 1000)) = true then (k : Int) + 1 else 1000 := by rw [V_succ, if_pos hv]
        rw [List.any_map]
        refine fin_if (fun z => ?_) fun z => same (.inr (ev.trans (if_neg (by rw [show ((wy W c).any fun o => !decide (U W k o t = 1000)) = false from z]; decide))))
        replace ev := ev.trans (if_pos (show ((wy W c).any fun o => !decide (U W k o t = 1000)) = true from z))
        obtain ⟨m', em, dm⟩ := df.put h2 (c := c) (t := t) (v := (k : Int) + 1) (by omega) (by omega) (by omega) (by omega) (by rw [hf _ _ (by omega) (by omega) (by omega) (by omega), if_neg (by omega)]) (by omega)
        refine fin_ob _ em ⟨_, dm, fun x y g0 g1 g2 g3 => ?_⟩
        by_cases e : x = (c : Int) ∧ y = (t : Int)
        · rw [if_pos e, e.1, e.2, if_pos ⟨by omega, hv⟩, ev]
        · rw [if_neg e, hf x y g0 g1 g2 g3]
          by_cases e2 : (x < c ∨ (x = c ∧ y < t)) ∧ V W k x y = 1000
          · rw [if_pos e2, if_pos ⟨by omega, e2.2⟩]
          · rw [if_neg e2, if_neg fun w => e2 ⟨by omega, w.2⟩]
      · rw [hf0 x y g0 g1 g2 g3]
        by_cases e2 : x < c ∧ V W k x y = 1000
        · rw [if_pos e2, if_pos ⟨by omega, e2.2⟩]
        · rw [if_neg e2, if_neg fun w => e2 ⟨by omega, w.2⟩]
      · obtain ⟨f, df, hf⟩ := i
        refine ⟨f, df, fun x y g0 g1 g2 g3 => ?_⟩
        rw [hf x y g0 g1 g2 g3]
        by_cases e2 : (x < c ∨ (x = c ∧ y < n.toNat)) ∧ V W k x y = 1000
        · rw [if_pos e2, if_pos ⟨by omega, e2.2⟩]
        · rw [if_neg e2, if_neg fun w => e2 ⟨by omega, w.2⟩]
    · obtain ⟨f, df, hf⟩ := i
      have hf' : ∀ x y, 0 ≤ x → x < n → 0 ≤ y → y < n → f x y = if V W k x y = 1000 then V W (k + 1) x y else 1000 := fun x y g0 g1 g2 g3 => by
        rw [hf x y g0 g1 g2 g3]
        by_cases e : V W k x y = 1000
        · rw [if_pos ⟨by omega, e⟩, if_pos e]
        · rw [if_neg fun w => e w.2, if_neg e]
      obtain ⟨m', em, dm⟩ := DR.cat h1 h2 d1 df (by rw [V_self]; decide) fun c t g0 g1 g2 g3 w => Classical.byContradiction fun z => w (by rw [hf' c t g0 g1 g2 g3, if_neg z])
      have dm' : DR n m' (V W (k + 1)) := dm.congr fun x y g0 g1 g2 g3 => by
        by_cases e : V W k x y = 1000
        · rw [if_pos e, hf' x y g0 g1 g2 g3, if_pos e]
        · rw [if_neg e, V_up e]
      refine fin_ob _ em ?_
      refine fin_ob _ (rgO1_ok (by omega) (by omega)) ?_
      refine fin_bind (tfor_rg (fun c s => ∃ f, DR n s f ∧ ∀ x y, 0 ≤ x → x < n → 0 ≤ y → y < n → f x y = if x < c then U W (k + 1) x y else U W k x y) _ (fun c s hc i => ?_) ⟨_, d2, fun x y _ _ _ _ => by rw [if_neg (by omega)]⟩) fun s2 i => ?_
      · obtain ⟨f0, df0, hf0⟩ := i
        refine fin_ob _ (rgO1_ok (by omega) (by omega)) ?_
        refine fin_bind (tfor_rg (fun t s => ∃ f, DR n s f ∧ ∀ x y, 0 ≤ x → x < n → 0 ≤ y → y < n → f x y = if (x < c ∨ (x = c ∧ y < t)) then U W (k + 1) x y else U W k x y) _ (fun t s ht i => ?_) ⟨f0, df0, fun x y g0 g1 g2 g3 => ?_⟩) fun s i => ?_
        · obtain ⟨f, df, hf⟩ := i
          have hct : f (c : Int) (t : Int) = U W k c t := by rw [hf _ _ (by omega) (by omega) (by omega) (by omega), if_neg (by omega)]
          have same : ∀ (z : U W (k + 1) (c : Int) (t : Int) = U W k c t), ∃ f, DR n s f ∧ ∀ x y, 0 ≤ x → x < n → 0 ≤ y → y < n → f x y = if (x < c ∨ (x = c ∧ y < ((t + 1 : Nat) : Int))) then U W (k + 1) x y else U W k x y := fun z => by
            refine ⟨f, df, fun x y g0 g1 g2 g3 => ?_⟩
            rw [hf x y g0 g1 g2 g3]
            by_cases e : x = (c : Int) ∧ y = (t : Int)
            · obtain ⟨rfl, rfl⟩ := e
              rw [if_neg (by omega), if_pos (by omega), z]
            · by_cases e2 : (x < c ∨ (x = c ∧ y < t))
              · rw [if_pos e2, if_pos (by omega)]
              · rw [if_neg e2, if_neg (by omega)]
          rw [df.mem (by omega) (by omega) (by omega) (by omega), hct]
          refine fin_if (fun z => ?_) fun z => same (U_up (by simpa using z))
          have hv : U W k (c : Int) (t : Int) = 1000 := by simpa using z
          refine fin_ob _ (opt_ok (hw _ (by omega) (by omega))) ?_
          refine fin_ob _ (tcomp_all (fun y8 => !decide (V W (k + 1) c y8 = 1000)) (by have := hW.few t (by omega) (by omega); have := szl; omega) fun y hy => congrArg some (dm'.mem (by omega) (by omega) (hW.rg t (by omega) (by omega) y hy).1 (hW.rg t (by omega) (by omega) y hy).2)) ?_
          have ev : U W (k + 1) (c : Int) (t : Int) = if ((wy W t).all fun o => !decide (V W (k + 1) c o = 1000)) = true then (k : Int) + 1 else 1000 := by rw [U_succ, if_pos hv]
          rw [List.all_map]
          refine fin_if (fun z => ?_) fun z => same ((ev.trans (if_neg (by rw [show ((wy W t).all fun o => !decide (V W (k + 1) c o = 1000)) = false from z]; decide))).trans hv.symm)
          replace ev := ev.trans (if_pos (show ((wy W t).all fun o => !decide (V W (k + 1) c o = 1000)) = true from z))
          obtain ⟨m', em, dm⟩ := df.put h2 (c := c) (t := t) (v := (k : Int) + 1) (by omega) (by omega) (by omega) (by omega) (hct.trans hv) (by omega)
          refine fin_ob _ em ⟨_, dm, fun x y g0 g1 g2 g3 => ?_⟩
          by_cases e : x = (c : Int) ∧ y = (t : Int)
          · rw [if_pos e, e.1, e.2, if_pos (by omega), ev]
          · rw [if_neg e, hf x y g0 g1 g2 g3]
            by_cases e2 : (x < c ∨ (x = c ∧ y < t))
            · rw [if_pos e2, if_pos (by omega)]
            · rw [if_neg e2, if_neg (by omega)]
        · rw [hf0 x y g0 g1 g2 g3]
          by_cases e2 : x < c
          · rw [if_pos e2, if_pos (by omega)]
          · rw [if_neg e2, if_neg (by omega)]
        · obtain ⟨f, df, hf⟩ := i
          refine ⟨f, df, fun x y g0 g1 g2 g3 => ?_⟩
          rw [hf x y g0 g1 g2 g3]
          by_cases e2 : (x < c ∨ (x = c ∧ y < n.toNat))
          · rw [if_pos e2, if_pos (by omega)]
          · rw [if_neg e2, if_neg (by omega)]
      · obtain ⟨f2, df2, hf2⟩ := i
        have d2' : DR n s2 (U W (k + 1)) := df2.congr fun x y g0 g1 g2 g3 => by rw [hf2 x y g0 g1 g2 g3, if_pos (by omega)]
        refine ⟨rfl, dm', d2', fun z => ?_, fun z st => ?_⟩
        · have hs : s = [] := by
            have : ¬ (0 : Int) < (s.length : Int) := of_decide_eq_false z
            exact List.length_eq_zero_iff.mp (by omega)
          subst hs
          intro c t g0 g1 g2 g3
          by_cases e : V W k c t = 1000
          · have q := df.get c t g0 g1 g2 g3
            rw [hf' c t g0 g1 g2 g3, if_pos e] at q
            by_cases e2 : V W (k + 1) c t = 1000
            · rw [e2, e]
            · rw [if_neg e2] at q; cases q
          · exact V_up e
        · have hs : (0 : Int) < (s.length : Int) := of_decide_eq_true z
          cases s with
          | nil => simp at hs
          | cons p s =>
            obtain ⟨⟨c, t⟩, v⟩ := p
            obtain ⟨⟨g0, g1⟩, g2, g3⟩ := mem_prs.mp (df.rg (c, t) List.mem_cons_self)
            have q := df.get c t g0 g1 g2 g3
            have e3 : f c t = 1000 := by
              rw [hf' c t g0 g1 g2 g3]
              split
              · rename_i e; rw [st c t g0 g1 g2 g3, e]
              · rfl
            rw [if_pos e3] at q
            exact (getM_none _ _).mp q List.mem_cons_self
  obtain ⟨⟨b, N', m1', m2'⟩, e, e1, q1, q2, q3, q4⟩ := X
  simp only at e1
  subst e1
  exact ⟨b, m1', m2', e, q1, q2, q3, q4⟩
/-! ### all rounds -/
theorem wM_t {σ τ ρ : Type} {n : Nat} {s s1 s' : σ} {c : σ → Option (Bool × σ)} {b : σ → TF σ σ ρ} (h : c s = some (true, s1)) (h2 : b s1 = .nx s') : (twhileM (n + 1) s c b : TF τ σ ρ) = twhileM n s' c b := by
  conv => lhs; unfold twhileM
  rw [h]; simp only [h2]
theorem wM_f {σ τ ρ : Type} {n : Nat} {s s1 : σ} {c : σ → Option (Bool × σ)} {b : σ → TF σ σ ρ} (h : c s = some (false, s1)) : (twhileM (n + 1) s c b : TF τ σ ρ) = .nx s1 := by
  unfold twhileM
  rw [h]
theorem rounds {τ ρ : Type} {N : T_Net} (hN : N.1 = n) (h1 : 1 ≤ n) (h2 : n ≤ 24) (hW : Way n W) (hw : ∀ p, 0 ≤ p → p < n → t_Net_ways N p = .ok (wy W p)) : ∀ (F k : Nat) (m1 m2 : List ((Int × Int) × Int)), DR n m1 (V W k) → DR n m2 (U W k) → k ≤ cn n W k → n.toNat * n.toNat - cn n W k < F →
    ∃ (k' : Nat) (m1' m2' : List ((Int × Int) × Int)), ((twhileM F ((k : Int), N, m1, m2) (fun s7 => (opt (t_Times_step_u (s7.2.1, s7.2.2.1, s7.2.2.2) (s7.1))).bind fun y_ => some (y_.1, (s7.1, y_.2.1, y_.2.2.1, y_.2.2.2))) (fun s7 =>
  .nx (s7.1 + (1 : Int), s7.2.1, s7.2.2.1, s7.2.2.2)) : TF τ (Int × T_Net × (List ((Int × Int) × Int)) × (List ((Int × Int) × Int))) ρ) = .nx ((k' : Int), N, m1', m2')) ∧ k' ≤ 600 ∧ St n W k' ∧ DR n m1' (V W (k' + 1)) ∧ DR n m2' (U W (k' + 1))
  | 0, k, m1, m2, d1, d2, hk, hF => absurd hF (by omega)
  | F + 1, k, m1, m2, d1, d2, hk, hF => by
    have sq : n.toNat * n.toNat ≤ 24 * 24 := Nat.mul_le_mul (by omega) (by omega)
    have := cn_le (n := n) (W := W) k
    obtain ⟨b, m1', m2', e, q1, q2, q3, q4⟩ := step_ok hN h1 h2 hW hw (k := k) (by omega) d1 d2
    have ec : (fun (s7 : Int × T_Net × (List ((Int × Int) × Int)) × (List ((Int × Int) × Int))) => (opt (t_Times_step_u (s7.2.1, s7.2.2.1, s7.2.2.2) (s7.1))).bind fun y_ => some (y_.1, (s7.1, y_.2.1, y_.2.2.1, y_.2.2.2))) ((k : Int), N, m1, m2) = some (b, ((k : Int), N, m1', m2')) := ob_o (opt_ok e) rfl
    cases b with
    | true =>
      have lt := cn_lt (q4 rfl)
      have := cn_le (n := n) (W := W) (k + 1)
      obtain ⟨k', a, b, e', z⟩ := rounds hN h1 h2 hW hw F (k + 1) m1' m2' q1 q2 (by omega) (by omega)
      refine ⟨k', a, b, Eq.trans (wM_t (s1 := ((k : Int), N, m1', m2')) (s' := (((k + 1 : Nat) : Int), N, m1', m2')) ?_ ?_) e', z⟩
      · exact ec
      · rfl
    | false =>
      refine ⟨k, m1', m2', wM_f ?_, by omega, q3 rfl, q1, q2⟩
      exact ec
theorem times_ok {N : T_Net} (hN : N.1 = n) (h1 : 1 ≤ n) (h2 : n ≤ 24) (hW : Way n W) (hw : ∀ p, 0 ≤ p → p < n → t_Net_ways N p = .ok (wy W p)) :
    ∃ k m1 m2, t_Times_init N = .ok (N, m1, m2) ∧ k ≤ 601 ∧ St n W k ∧ DR n m1 (V W k) ∧ DR n m2 (U W k) := by
  have sq : n.toNat * n.toNat ≤ 24 * 24 := Nat.mul_le_mul (by omega) (by omega)
  obtain ⟨m, em, dv, du⟩ := DR.zero (n := n) (W := W) h1 h2
  obtain ⟨k, m1, m2, e, hk, st, q1, q2⟩ := rounds (τ := Unit) (ρ := Unit) hN h1 h2 hW hw 1000000 0 m m dv du (Nat.zero_le _) (by omega)
  refine ⟨k + 1, m1, m2, ?_, by omega, st.next hW (by omega), q1, q2⟩
  unfold t_Times_init
  simp only [tlet_eq]
  rw [hN]
  have r := rgO1_ok (j := n) (by omega) (by omega)
  refine runI_to (s := ((N, m1, m2) : T_Times)) ?_
  exact ob_to r (ob_to em (ob_to r (ob_to em (bind_to e rfl))))
end LW
set_option Elab.async false
set_option linter.all false
set_option maxRecDepth 100000
set_option maxHeartbeats 2000000
namespace LW
open PySem PySem.Spec PyProof.Rows L2 DL TL
variable {n : Int} {W : List (List Int)}
/-! ### the first place of the least cost -/
def leQ (p q : Int × Int) : Prop := p.1 < q.1 ∨ (p.1 = q.1 ∧ p.2 ≤ q.2)
theorem ltS_pair (p q : Int × Int) : ltS (e2 D.int D.int p) (e2 D.int D.int q) = decide (p.1 < q.1 ∨ (p.1 = q.1 ∧ p.2 < q.2)) := PySem.W.dataLt_ii _ _ _ _
def lx2 (a y : Int × Int) : Int × Int := if y.1 < a.1 ∨ (y.1 = a.1 ∧ y.2 < a.2) then y else a
theorem better_pair (a y : Int × Int) : better false (e2 D.int D.int a) (e2 D.int D.int y) = e2 D.int D.int (lx2 a y) := by
  unfold better lx2
  simp only [Bool.false_eq_true, if_false, ltS_pair, decide_eq_true_eq]
  split <;> rfl
theorem fold_pair : ∀ (ps : List (Int × Int)) (a : Int × Int), (ps.map (e2 D.int D.int)).foldl (better false) (e2 D.int D.int a) = e2 D.int D.int (ps.foldl lx2 a)
  | [], a => rfl
  | p :: ps, a => by rw [List.map_cons, List.foldl_cons, better_pair, fold_pair ps, List.foldl_cons]
theorem fold_lx : ∀ (ps : List (Int × Int)) (a : Int × Int), ps.foldl lx2 a ∈ a :: ps ∧ ∀ q ∈ a :: ps, leQ (ps.foldl lx2 a) q
  | [], a => ⟨List.mem_cons_self, fun q hq => by rw [List.mem_singleton.mp hq]; exact .inr ⟨rfl, Int.le_refl _⟩⟩
  | p :: ps, a => by
    obtain ⟨h1, h2⟩ := fold_lx ps (lx2 a p)
    rw [List.foldl_cons]
    have m0 := h2 (lx2 a p) List.mem_cons_self
    have two : (lx2 a p = a ∨ lx2 a p = p) ∧ leQ (lx2 a p) a ∧ leQ (lx2 a p) p := by
      unfold lx2 leQ
      split
      · exact ⟨.inr rfl, by omega, by omega⟩
      · exact ⟨.inl rfl, by omega, by omega⟩
    refine ⟨?_, fun q hq => ?_⟩
    · rcases List.mem_cons.mp h1 with e | e
      · rw [e]
        rcases two.1 with z | z
        · rw [z]; exact List.mem_cons_self
        · rw [z]; exact List.mem_cons_of_mem _ List.mem_cons_self
      · exact List.mem_cons_of_mem _ (List.mem_cons_of_mem _ e)
    · unfold leQ at m0 two ⊢
      rcases List.mem_cons.mp hq with e | e
      · rw [e]; omega
      · rcases List.mem_cons.mp e with e | e
        · rw [e]; omega
        · exact h2 q (List.mem_cons_of_mem _ e)
theorem bestOk_pairs (ps : List (Int × Int)) : bestOk (ps.map (e2 D.int D.int)) = true := by
  unfold bestOk
  simp only [Bool.and_eq_true]
  refine ⟨⟨⟨?_, ?_⟩, ?_⟩, ?_⟩
  · induction ps with
    | nil => rfl
    | cons p ps ih => rw [List.map_cons]; simp only [cleanAll, Bool.and_eq_true]; exact ⟨rfl, ih⟩
  · rw [List.all_eq_true]; intro d hd; obtain ⟨x, _, rfl⟩ := List.mem_map.mp hd
    rw [List.all_eq_true]; intro d hd; obtain ⟨y, _, rfl⟩ := List.mem_map.mp hd
    rfl
  · rw [List.all_eq_true]; intro d hd; obtain ⟨x, _, rfl⟩ := List.mem_map.mp hd
    rfl
  · simp [toPy, toPyAll, e2, PyData.depth, PyData.depthAll]
theorem minG_pairs {ps : List (Int × Int)} (h : ps ≠ []) : ∃ p, minG [eL (e2 D.int D.int) ps] = some (e2 D.int D.int p) ∧ p ∈ ps ∧ ∀ q ∈ ps, leQ p q := by
  cases ps with
  | nil => exact absurd rfl h
  | cons a ps =>
    obtain ⟨q1, q2⟩ := fold_lx ps a
    refine ⟨_, ?_, q1, q2⟩
    simp only [minG, bestG, eL, items, Option.bind_some]
    rw [if_pos (bestOk_pairs _)]
    show some ((ps.map (e2 D.int D.int)).foldl (better false) (e2 D.int D.int a)) = _
    rw [fold_pair]
/-- r is the first of w with the least f -/
structure Fst (w : List Int) (f : Int → Int) (r : Int) : Prop where
  mem : r ∈ w
  le : ∀ x ∈ w, f r ≤ f x
  eq : ∀ x ∈ w, f x = f r → r ≤ x
theorem Fst.one {w : List Int} {f : Int → Int} {r r' : Int} (h : Fst w f r) (h' : Fst w f r') : r = r' := by
  have a := h.le r' h'.mem
  have b := h'.le r h.mem
  have c := h.eq r' h'.mem (by omega)
  have d := h'.eq r h.mem (by omega)
  omega
theorem findI_of : ∀ {ns : List Int} {k : Int}, k ∈ ns → ∃ j, findI ns k = some j ∧ j < ns.length
  | n :: ns, k, h => by
    unfold findI
    by_cases c : n = k
    · exact ⟨0, by rw [if_pos c], by simp⟩
    · obtain ⟨j, hj, hl⟩ := findI_of ((List.mem_cons.mp h).resolve_left fun e => c e.symm)
      exact ⟨j + 1, by rw [if_neg c, hj]; rfl, by simp; omega⟩
/-- the law's: the place at the first index of a value -/
theorem at_index {w : List Int} (hs : w.Pairwise (· ≤ ·)) {F f : Int → Int} (hf : ∀ x y, F x = F y → f x = f y) (hg : ∀ x y, f x = f y → F x = F y) {m : Int} (hm : m ∈ w.map F) (hle : ∀ x ∈ w, ∀ y ∈ w, F x = m → f x ≤ f y) : ∃ i r, indexO (w.map F) m = some i ∧ L2.atI w i = some r ∧ Fst w f r := by
  obtain ⟨j, hj, hl⟩ := findI_of hm
  obtain ⟨q1, q2⟩ := findI_at hj
  rw [List.length_map] at hl
  have e : F w[j] = m := by
    rw [List.getElem?_map, List.getElem?_eq_getElem hl] at q1
    injection q1
  refine ⟨(j : Int), w[j], by unfold indexO; rw [hj]; rfl, ?_, List.getElem_mem hl, fun x hx => hle _ (List.getElem_mem hl) x hx e, fun x hx ex => ?_⟩
  · unfold L2.atI
    rw [ixN_ok (by omega) (by omega), obS, show ((j : Int)).toNat = j by omega, List.getElem?_eq_getElem hl]
  · obtain ⟨i, hi, rfl⟩ := List.getElem_of_mem hx
    have hij : j ≤ i := by
      refine Classical.byContradiction fun z => ?_
      refine q2 i (F w[i]) (by omega) (by rw [List.getElem?_map, List.getElem?_eq_getElem hi]; rfl) ?_
      rw [hg _ _ ex, e]
    rcases Nat.lt_or_ge j i with z | z
    · exact List.pairwise_iff_getElem.mp hs j i hl hi z
    · have : i = j := by omega
      subst this; exact Int.le_refl _
/-- the program's: the least pair of cost and place -/
theorem least_pair {w : List Int} {P : Int → Bool} {f : Int → Int} (h : ∃ x ∈ w, P x = true) (hP : ∀ x ∈ w, ∀ y ∈ w, P x = true → P y = false → f x < f y) : ∃ v r, minG [eL (e2 D.int D.int) ((w.filter P).map fun o => (f o, o))] = some (e2 D.int D.int (v, r)) ∧ Fst w f r := by
  obtain ⟨x0, hx0, hp0⟩ := h
  have ne : (w.filter P).map (fun o => (f o, o)) ≠ [] := fun z => by
    have : x0 ∈ w.filter P := List.mem_filter.mpr ⟨hx0, hp0⟩
    rw [List.map_eq_nil_iff.mp z] at this; exact List.not_mem_nil this
  obtain ⟨⟨v, r⟩, e, hm, hq⟩ := minG_pairs ne
  obtain ⟨o, ho, eo⟩ := List.mem_map.mp hm
  injection eo with e1 e2
  subst e2
  obtain ⟨how, hop⟩ := List.mem_filter.mp ho
  have key : ∀ x ∈ w, f o < f x ∨ (f o = f x ∧ o ≤ x) := fun x hx => by
    cases p : P x with
    | true =>
      have := hq (f x, x) (List.mem_map.mpr ⟨x, List.mem_filter.mpr ⟨hx, p⟩, rfl⟩)
      unfold leQ at this
      simp only at this
      omega
    | false => exact .inl (hP o how x hx hop p)
  exact ⟨v, o, e, how, fun x hx => by have := key x hx; omega, fun x hx ex => by have := key x hx; omega⟩
end LW
set_option Elab.async false
set_option linter.all false
set_option maxRecDepth 100000
set_option maxHeartbeats 2000000
namespace LW
open PySem PySem.Spec PyProof.Rows L2 DL TL
variable {n : Int} {W : List (List Int)}
/-! ### where they go -/
theorem Fst.congr {w : List Int} {f g : Int → Int} {r : Int} (h : Fst w f r) (e : ∀ x ∈ w, f x = g x) : Fst w g r :=
  ⟨h.mem, fun x hx => by rw [← e r h.mem, ← e x hx]; exact h.le x hx, fun x hx z => h.eq x hx (by rw [e r h.mem, e x hx]; exact z)⟩
theorem min_ex {l : List Int} (h : l ≠ []) : ∃ m, minI l = some m ∧ m ∈ l ∧ ∀ x ∈ l, m ≤ x := by
  cases l with
  | nil => exact absurd rfl h
  | cons a l => exact ⟨_, rfl, (foldmin l a).1, (foldmin l a).2⟩
theorem max_ex {l : List Int} (h : l ≠ []) : ∃ m, maxI l = some m ∧ m ∈ l ∧ ∀ x ∈ l, x ≤ m := by
  cases l with
  | nil => exact absurd rfl h
  | cons a l => exact ⟨_, rfl, (foldmax l a).1, (foldmax l a).2⟩
theorem if_t {α : Type} {a b r : α} (h : a = r) : (if true = true then a else b) = r := h
theorem if_f {α : Type} {a b r : α} (h : b = r) : (if false = true then a else b) = r := h
theorem up_to {τ σ ρ : Type} {t : TF τ Empty ρ} {r : ρ} (h : t = .rt r) : (TF.up t : TF τ σ ρ) = .rt r := by rw [h]; rfl
theorem idx1 (p : Int × Int) : idxD (e2 D.int D.int p) (D.int 1) = some (.int p.2) := rfl
theorem behind_ok (hW : Way n W) {j : Nat} (hj : j ≤ 900) {o t : Int} (ho : 0 ≤ o) (ho1 : o < n) (h2 : 0 ≤ t) (h3 : t < n) : t_law_behind_u (mat n (V W j)) W o t = .ok (U W j o t) := by
  unfold t_law_behind_u
  exact run_to (ob_to (hv_ok hW hj ho ho1 h2 h3) rfl)
structure Prog (n : Int) (W : List (List Int)) (N : T_Net) (k j : Nat) (m1 m2 : List ((Int × Int) × Int)) : Prop where
  hW : Way n W
  hw : ∀ p, 0 ≤ p → p < n → t_Net_ways N p = .ok (wy W p)
  hk : k ≤ 601
  hj : j ≤ 600
  sk : St n W k
  sj : St n W j
  d1 : DR n m1 (V W k)
  d2 : DR n m2 (U W k)
theorem chaser_ok {N : T_Net} {k j : Nat} {m1 m2 : List ((Int × Int) × Int)} (P : Prog n W N k j m1 m2) {c t : Int} (h0 : 0 ≤ c) (h1 : c < n) (h2 : 0 ≤ t) (h3 : t < n) :
    ∃ r : Int, t_chaser_goes_u (N, m1, m2) c t = .ok (.int r) ∧ t_law_chaser_u (mat n (V W j)) W c t = .ok r := by
  have same := fun {a b : Int} (g0 : 0 ≤ a) (g1 : a < n) (g2 : 0 ≤ b) (g3 : b < n) => P.sk.same P.hW P.sj (by have := P.hk; omega) (by have := P.hj; omega) g0 g1 g2 g3
  have few := P.hW.few c h0 h1
  unfold t_chaser_goes_u t_law_chaser_u
  simp only [tlet_eq]
  by_cases ht : t ∈ wy W c
  · exact ⟨t, run_to (ob_to (opt_ok (P.hw c h0 h1)) ((if_pos (decide_eq_true ht)).trans rfl)), run_to (ob_to (way_at P.hW h0 h1) ((if_pos (decide_eq_true ht)).trans rfl))⟩
  · have hct : c ≠ t := fun e => ht (e ▸ P.hW.self c h0 h1)
    by_cases hv : V W k c t = 1000
    · refine ⟨c, run_to (ob_to (opt_ok (P.hw c h0 h1)) ((if_neg (by simpa using ht)).trans ?_)), run_to (ob_to (way_at P.hW h0 h1) ((if_neg (by simpa using ht)).trans (ob_to (mat_row _ h0 h1) (ob_to (atI_rn _ h2 h3) ?_))))⟩
      · rw [P.d1.mem h0 h1 h2 h3, decide_eq_true hv]; rfl
      · rw [← (same h0 h1 h2 h3).1, decide_eq_true hv]; rfl
    · have ex : ∃ o ∈ wy W c, U W k o t ≠ 1000 := by
        rcases minV (W := W) k (by have := P.hk; omega) hct with ⟨e, _⟩ | ⟨j', e, hj', ⟨o, ho, w⟩, _⟩
        · rw [P.sk c t h0 h1 h2 h3] at e; exact absurd e hv
        · exact ⟨o, ho, by have := P.hk; omega⟩
      obtain ⟨o0, ho0, hu0⟩ := ex
      obtain ⟨v, r, e1, f1⟩ := least_pair (w := wy W c) (P := fun o => !decide (U W k o t = 1000)) (f := fun o => U W k o t) ⟨o0, ho0, by simpa using hu0⟩ fun x _ y _ px py => by
        have px' : U W k x t ≠ 1000 := by simpa using px
        have py' : U W k y t = 1000 := by simpa using py
        have := (bnd (W := W) k x t).2
        have := P.hk
        show U W k x t < U W k y t
        omega
      obtain ⟨m, em, mm, ml⟩ := min_ex (l := (wy W c).map fun o => U W j o t) (fun z => by rw [List.map_eq_nil_iff.mp z] at ho0; exact List.not_mem_nil ho0)
      obtain ⟨i, r', e2, e3, f2⟩ := at_index (P.hW.asc c h0 h1) (F := fun o => U W j o t) (f := fun o => U W j o t) (fun _ _ h => h) (fun _ _ h => h) mm fun x hx y hy e => by
        show U W j x t ≤ U W j y t
        rw [show U W j x t = m from e]
        exact ml _ (List.mem_map.mpr ⟨y, hy, rfl⟩)
      have er : r = r' := f1.one (f2.congr fun x hx => (same (P.hW.rg c h0 h1 x hx).1 (P.hW.rg c h0 h1 x hx).2 h2 h3).2.symm)
      subst er
      refine ⟨r, run_to (ob_to (opt_ok (P.hw c h0 h1)) ((if_neg (by simpa using ht)).trans ?_)), run_to (ob_to (way_at P.hW h0 h1) ((if_neg (by simpa using ht)).trans (ob_to (mat_row _ h0 h1) (ob_to (atI_rn _ h2 h3) ?_))))⟩
      · rw [P.d1.mem h0 h1 h2 h3, decide_eq_false hv]
        refine if_f (ob_to (x := .int r) (opt_ok ?_) rfl)
        unfold t_Times_best
        simp only [tlet_eq]
        refine run_to (ob_to (opt_ok (P.hw c h0 h1)) (ob_to (x := (wy W c).filter fun o => !decide (U W k o t = 1000)) ?_ (ob_to (x := ((wy W c).filter fun o => !decide (U W k o t = 1000)).map fun o => (U W k o t, o)) ?_ (ob_to e1 (ob_to (idx1 _) (ob_to (x := ()) rfl rfl))))))
        · exact (tcomp_pure (fun o => !decide (U W k o t = 1000)) (fun y => y) (by have := szl; omega) (fun y hy => congrArg some (P.d2.mem (P.hW.rg c h0 h1 y hy).1 (P.hW.rg c h0 h1 y hy).2 h2 h3)) fun _ _ _ => rfl).trans (by rw [List.map_id'])
        · refine tcomp_all (fun o => (U W k o t, o)) (by have := szl; have := List.length_filter_le (fun o => !decide (U W k o t = 1000)) (wy W c); omega) fun y hy => ?_
          obtain ⟨hy1, hy2⟩ := List.mem_filter.mp hy
          refine ob_o (x := U W k y t) ?_ rfl
          rw [P.d2.get y t (P.hW.rg c h0 h1 y hy1).1 (P.hW.rg c h0 h1 y hy1).2 h2 h3, if_neg (by simpa using hy2)]
      · rw [← (same h0 h1 h2 h3).1, decide_eq_false hv]
        refine if_f (ob_to (way_at P.hW h0 h1) (ob_to (tcomp_all (fun o => U W j o t) (by have := szl; omega) fun y hy => opt_ok (behind_ok P.hW (by have := P.hj; omega) (P.hW.rg c h0 h1 y hy).1 (P.hW.rg c h0 h1 y hy).2 h2 h3)) (ob_to (way_at P.hW h0 h1) (ob_to em (ob_to e2 (ob_to e3 rfl))))))
theorem thief_ok {N : T_Net} {k j : Nat} {m1 m2 : List ((Int × Int) × Int)} (P : Prog n W N k j m1 m2) {c t : Int} (h0 : 0 ≤ c) (h1 : c < n) (h2 : 0 ≤ t) (h3 : t < n) :
    ∃ r : Int, t_thief_goes_u (N, m1, m2) c t = .ok (.int r) ∧ t_law_thief_u (mat n (V W j)) W c t = .ok r := by
  have same := fun {a b : Int} (g0 : 0 ≤ a) (g1 : a < n) (g2 : 0 ≤ b) (g3 : b < n) => P.sk.same P.hW P.sj (by have := P.hk; omega) (by have := P.hj; omega) g0 g1 g2 g3
  have few := P.hW.few t h2 h3
  unfold t_thief_goes_u t_law_thief_u
  simp only [tlet_eq]
  by_cases hct : c = t
  · exact ⟨t, run_to (ob_to ((if_pos (decide_eq_true hct)).trans rfl) rfl), run_to ((if_pos (decide_eq_true hct)).trans rfl)⟩
  · have ne : (wy W t).map (V W j c) ≠ [] := fun z => by
      have := P.hW.self t h2 h3
      rw [List.map_eq_nil_iff.mp z] at this; exact List.not_mem_nil this
    obtain ⟨m, em, mm, ml⟩ := max_ex ne
    obtain ⟨i, r', e2, e3, f2⟩ := at_index (P.hW.asc t h2 h3) (F := V W j c) (f := fun o => 0 - V W j c o) (fun x y h => by simp only [h]) (fun x y h => by omega) mm fun x hx y hy e => by
      have := ml _ (List.mem_map.mpr ⟨y, hy, rfl⟩)
      show 0 - V W j c x ≤ 0 - V W j c y
      omega
    have f2' : Fst (wy W t) (fun o => 0 - V W k c o) r' := f2.congr fun x hx => by
      show 0 - V W j c x = 0 - V W k c x
      rw [(same h0 h1 (P.hW.rg t h2 h3 x hx).1 (P.hW.rg t h2 h3 x hx).2).1]
    refine ⟨r', run_to (ob_to (x := .int r') ((if_neg (by simpa using hct)).trans (opt_ok ?_)) rfl), run_to ((if_neg (by simpa using hct)).trans (ob_to (way_at P.hW h2 h3) (ob_to (tcomp_all (V W j c) (by have := szl; omega) fun y hy => mat_at _ h0 h1 (P.hW.rg t h2 h3 y hy).1 (P.hW.rg t h2 h3 y hy).2) (ob_to (way_at P.hW h2 h3) (ob_to em (ob_to e2 (ob_to e3 rfl)))))))⟩
    unfold t_Times_worst
    simp only [tlet_eq]
    refine run_to (ob_to (opt_ok (P.hw t h2 h3)) (ob_to (x := (wy W t).filter fun o => decide (V W k c o = 1000)) ?_ ?_))
    · exact (tcomp_pure (fun o => decide (V W k c o = 1000)) (fun y => y) (by have := szl; omega) (fun y hy => congrArg some (by rw [P.d1.mem h0 h1 (P.hW.rg t h2 h3 y hy).1 (P.hW.rg t h2 h3 y hy).2, Bool.not_not])) fun _ _ _ => rfl).trans (by rw [List.map_id'])
    · have asc := (P.hW.asc t h2 h3).filter fun o => decide (V W k c o = 1000)
      have mem : ∀ x : Int, x ∈ ((wy W t).filter fun o => decide (V W k c o = 1000)) ↔ x ∈ wy W t ∧ decide (V W k c x = 1000) = true := fun x => List.mem_filter
      generalize hF : ((wy W t).filter fun o => decide (V W k c o = 1000)) = F at asc mem ⊢
      cases F with
      | cons a F =>
        have ha := (mem a).mp List.mem_cons_self
        have va : V W k c a = 1000 := of_decide_eq_true ha.2
        have f1 : Fst (wy W t) (fun o => 0 - V W k c o) a := ⟨ha.1, fun x hx => by
          have := (bnd (W := W) k c x).1
          have := P.hk
          show 0 - V W k c a ≤ 0 - V W k c x
          omega, fun x hx e => by
          have e' : 0 - V W k c x = 0 - V W k c a := e
          have vx : V W k c x = 1000 := by omega
          have := (mem x).mpr ⟨hx, decide_eq_true vx⟩
          rcases List.mem_cons.mp this with z | z
          · rw [z]; exact Int.le_refl _
          · exact (List.pairwise_cons.mp asc).1 x z⟩
        have er := f1.one f2'
        subst er
        refine (if_pos (decide_eq_true (by simp only [List.length_cons]; omega))).trans (up_to (ob_to (x := a) ?_ rfl))
        rw [atI_ok a (by decide) (by simp only [List.length_cons]; omega)]; rfl
      | nil =>
        have all : ∀ x ∈ wy W t, V W k c x ≠ 1000 := fun x hx z => by
          have := (mem x).mpr ⟨hx, decide_eq_true z⟩
          exact List.not_mem_nil this
        obtain ⟨v, r, e1, f1⟩ := least_pair (w := wy W t) (P := fun _ => true) (f := fun o => 0 - V W k c o) ⟨t, P.hW.self t h2 h3, rfl⟩ fun x _ y _ _ py => nomatch py
        rw [List.filter_eq_self.mpr fun _ _ => rfl] at e1
        have er := f1.one f2'
        subst er
        refine (if_neg (by simp)).trans (ob_to (opt_ok (P.hw t h2 h3)) (ob_to (x := (wy W t).map fun o => (0 - V W k c o, o)) ?_ (ob_to e1 (ob_to (idx1 _) (ob_to (x := ()) rfl rfl)))))
        refine tcomp_all (fun o => (0 - V W k c o, o)) (by have := szl; omega) fun y hy => ob_o (x := V W k c y) ?_ rfl
        rw [P.d1.get c y h0 h1 (P.hW.rg t h2 h3 y hy).1 (P.hW.rg t h2 h3 y hy).2, if_neg (all y hy)]
end LW
set_option Elab.async false
set_option linter.all false
set_option maxRecDepth 100000
set_option maxHeartbeats 2000000
namespace LW
open PySem PySem.Spec PyProof.Rows L2 DL TL
/-! ### the net's ways -/
theorem mem_add1 {m : List (List Int)} {a b x : Int} {i : Nat} (h : x ∈ (add1 m a b).getD i []) : x ∈ m.getD i [] ∨ (i = a.toNat ∧ x = b) := by
  unfold add1 at h
  by_cases c : a.toNat < m.length
  · rw [getD_set c] at h
    by_cases e : i = a.toNat
    · rw [if_pos e] at h
      rcases List.mem_append.mp h with w | w
      · exact .inl (e ▸ w)
      · exact .inr ⟨e, List.mem_singleton.mp w⟩
    · rw [if_neg e] at h; exact .inl h
  · rw [List.set_eq_of_length_le (by omega)] at h; exact .inl h
theorem mem_fold {n : Int} : ∀ {E : List (Int × Int)} {m : List (List Int)} {x : Int} {i : Nat}, (∀ p ∈ E, PIn n p) → x ∈ (E.foldl addN m).getD i [] → x ∈ m.getD i [] ∨ (0 ≤ x ∧ x < n)
  | [], m, x, i, _, h => .inl h
  | p :: E, m, x, i, hp, h => by
    have hpi := hp p List.mem_cons_self
    unfold PIn at hpi
    rcases mem_fold (fun q hq => hp q (List.mem_cons_of_mem _ hq)) h with w | w
    · unfold addN at w
      rcases mem_add1 w with w | ⟨w1, w2⟩
      · rcases mem_add1 w with w | ⟨w1, w2⟩
        · exact .inl w
        · exact .inr (by omega)
      · exact .inr (by omega)
    · exact .inr w
theorem wys_way {n : Int} {E : List (Int × Int)} (h : NetOk n E) (h1 : 1 ≤ n) : Way n (wys n E) := by
  have get : ∀ a, 0 ≤ a → a < n → wy (wys n E) a = isI (a :: (near n E).getD a.toNat []) := fun a h0 h2 => by
    have := wys_get h h1 (i := a.toNat) (by omega)
    rw [show ((a.toNat : Nat) : Int) = a by omega] at this
    exact this
  refine ⟨wys_len n E, fun a h0 h2 => ?_, fun a h0 h2 x hx => ?_, fun a h0 h2 => ?_, fun a h0 h2 => ?_⟩
  · rw [get a h0 h2, (isI_perm _).mem_iff]; exact List.mem_cons_self
  · rw [get a h0 h2, (isI_perm _).mem_iff] at hx
    rcases List.mem_cons.mp hx with w | w
    · omega
    · unfold near at w
      rcases mem_fold h.pin w with w | w
      · rw [List.getD, rn_get (fun _ => ([] : List Int)) (show ((a.toNat : Nat) : Int) < n by omega)] at w
        exact nomatch w
      · exact w
  · rw [get a h0 h2]; exact isI_sorted _
  · rw [get a h0 h2, (isI_perm _).length_eq, List.length_cons]
    have := small_get (near_small h) a.toNat
    omega
/-! ### values that are no places -/
theorem whole_bl (b : Bool) (l h : Int) : t_is_whole (.bl b) l h = .ok false := by
  unfold t_is_whole
  refine run_to (ob_to (isO_of (a := "bool") rfl (b := true) (by decide +kernel)) (ob_to (x := false) ((if_pos rfl).trans (ob_o (isO_of (a := "bool") rfl (b := true) (by decide +kernel)) rfl)) rfl))
theorem whole_no {d : D} {a : String} (l h : Int) (h1 : tyName d = some a) (h2 : subTy a "int" = some false) : t_is_whole d l h = .ok false := by
  unfold t_is_whole
  exact run_to (ob_to (isO_of h1 h2) (ob_to (x := false) rfl rfl))
section
variable {N : T_Net}
theorem place_ok {v : Int} (h : 0 ≤ v) (h1 : v < N.1) : t_check_place N (.int v) = .ok () := by
  unfold t_check_place
  rw [whole_ok, decide_eq_true h, decide_eq_true (by omega)]; rfl
theorem place_no {d : D} (h : t_is_whole d 0 (N.1 - 1) = .ok false) : t_check_place N d = .ex "BadPlace" := by
  unfold t_check_place
  rw [h]; rfl
theorem refused_a {d e : D} {y : Int} (h : t_check_place N d = .ex "BadPlace") : t_law_refused_u y N d e = .ok true := by
  have a : t_chaser_goes N d e = .ex "BadPlace" := by unfold t_chaser_goes; rw [h]; rfl
  have b : t_thief_goes N d e = .ex "BadPlace" := by unfold t_thief_goes; rw [h]; rfl
  unfold t_law_refused_u
  rw [a, b]
  by_cases c : y = 0
  · rw [if_pos (decide_eq_true c)]; rfl
  · rw [if_neg (by simpa using c)]; rfl
theorem refused_b {d e : D} {y : Int} (h0 : t_check_place N d = .ok ()) (h : t_check_place N e = .ex "BadPlace") : t_law_refused_u y N d e = .ok true := by
  have a : t_chaser_goes N d e = .ex "BadPlace" := by unfold t_chaser_goes; rw [h0, rbind_ok, h]; rfl
  have b : t_thief_goes N d e = .ex "BadPlace" := by unfold t_thief_goes; rw [h0, rbind_ok, h]; rfl
  unfold t_law_refused_u
  rw [a, b]
  by_cases c : y = 0
  · rw [if_pos (decide_eq_true c)]; rfl
  · rw [if_neg (by simpa using c)]; rfl
theorem wrongs {d : D} (h : d ∈ [(D.int (-(1 : Int))), (D.int N.1), (D.bl true), (eN ()), (D.str ("0" : Str)), ((e1 D.int) (0 : Int))]) : t_check_place N d = .ex "BadPlace" := by
  simp only [List.mem_cons, List.not_mem_nil, or_false] at h
  rcases h with rfl | rfl | rfl | rfl | rfl | rfl
  · exact place_no (by rw [whole_ok]; rfl)
  · exact place_no (by rw [whole_ok, decide_eq_false (p := N.1 ≤ N.1 - 1) (by omega), Bool.and_false])
  · exact place_no (whole_bl _ _ _)
  · exact place_no (whole_no (a := "NoneType") _ _ rfl (by decide +kernel))
  · exact place_no (whole_no (a := "str") _ _ rfl (by decide +kernel))
  · exact place_no (whole_no (a := "tuple") _ _ rfl (by decide +kernel))
end
theorem neInt (a b : Int) : (neD (D.int a) (D.int b)).bind asB = some (!decide (a = b)) := by
  rw [o_ne fit_int ly_int]; rfl
theorem fin_true {t : TF Unit Empty Bool} (h : TFin (fun _ => False) (fun r => r = true) t) : TF.run' t = .ok true := by
  obtain ⟨r, e, q⟩ := fin_run h
  rw [e, q]
theorem fin_ifn {σ τ ρ : Type} {I : σ → Prop} {Q : ρ → Prop} {b : Bool} {t e : TF τ σ ρ} (h : b = false) (h2 : TFin I Q e) : TFin I Q (if b = true then t else e) := by
  rw [h]; exact h2
theorem t_true (ns : List Int) (hns : ns.length ≤ 63) : t_law ns = .ok true := by
  obtain ⟨ds, hd, dl, dn⟩ := draws_ok ns 50 (by decide) (by decide)
  unfold t_law
  simp only [tlet_eq]
  refine fin_true ?_
  refine fin_ob _ (opt_ok hd) ?_
  refine fin_ob _ (rgO1_ok (by omega) (by omega)) ?_
  refine fin_bind (tfor_inv (fun _ _ => True) _ (fun k s _ y hy => ?_) trivial) (fun s _ => rfl)
  rw [mem_rg1] at hy
  have hy2 : y = 0 ∨ y = 1 ∨ y = 2 := by
    have e : (3 : Int).toNat = 3 := rfl
    rw [e] at hy; omega
  refine fin_ob _ (atI_ok 0 (by omega) (by simp; omega)) ?_
  have hm : 1 ≤ [(4 : Int), 8, 6].getD y.toNat 0 ∧ [(4 : Int), 8, 6].getD y.toNat 0 ≤ 8 := by
    rcases hy2 with rfl | rfl | rfl <;> decide
  generalize [(4 : Int), 8, 6].getD y.toNat 0 = most at hm ⊢
  obtain ⟨r, hr, r1, r2, hN⟩ := net_ok ds dn (13 * y) most (by omega) hm.1 (by omega) (by omega)
  obtain ⟨n, E⟩ := r
  dsimp only at r1 r2 hN
  have n2 : n ≤ 24 := by omega
  refine fin_ob _ (opt_ok hr) ?_
  refine fin_ob _ (opt_ok (init_ok hN r1 n2)) ?_
  refine fin_ob _ (opt_ok (law_ways_ok hN r1 n2)) ?_
  have hW := wys_way hN r1
  have hw : ∀ p, 0 ≤ p → p < n → t_Net_ways (n, E, near n E) p = .ok (wy (wys n E) p) := fun p h0 h1 => ways_ok hN r1 h0 h1 (near_small hN)
  obtain ⟨j, hj, sj, ej⟩ := law_times_ok hW r1 n2
  obtain ⟨k', m1, m2, ek, hk, sk, d1, d2⟩ := times_ok (N := (n, E, near n E)) rfl r1 n2 hW hw
  have P : Prog n (wys n E) (n, E, near n E) k' j m1 m2 := ⟨hW, hw, hk, hj, sk, sj, d1, d2⟩
  refine fin_ob _ (opt_ok ej) ?_
  refine fin_ob _ (rgO1_ok (by omega) (by omega)) ?_
  refine fin_bind (tfor_inv (fun _ _ => True) _ (fun _ s _ c hc => ?_) trivial) (fun s _ => ?_)
  · have hc' := mem_rn.mp hc
    refine fin_ob _ (rgO1_ok (by omega) (by omega)) ?_
    refine fin_bind (tfor_inv (fun _ _ => True) _ (fun _ s _ t ht => ?_) trivial) (fun s _ => trivial)
    have ht' := mem_rn.mp ht
    obtain ⟨r, a1, a2⟩ := chaser_ok P hc'.1 hc'.2 ht'.1 ht'.2
    obtain ⟨q, b1, b2⟩ := thief_ok P hc'.1 hc'.2 ht'.1 ht'.2
    have pc := place_ok (N := (n, E, near n E)) hc'.1 hc'.2
    have pt := place_ok (N := (n, E, near n E)) ht'.1 ht'.2
    refine fin_ob (.int r) (opt_ok ?_) (fin_ob (.int q) (opt_ok ?_) (fin_ob _ (opt_ok a2) (fin_ob _ (neInt _ _) (fin_ob false ?_ trivial))))
    · unfold t_chaser_goes
      rw [pc, rbind_ok, pt, rbind_ok]
      exact run_to (ob_to (x := c) rfl (ob_to (x := t) rfl (ob_to (opt_ok ek) (ob_to (opt_ok a1) rfl))))
    · unfold t_thief_goes
      rw [pc, rbind_ok, pt, rbind_ok]
      exact run_to (ob_to (x := c) rfl (ob_to (x := t) rfl (ob_to (opt_ok ek) (ob_to (opt_ok b1) rfl))))
    · rw [decide_eq_true rfl]
      refine (if_neg (show ¬ (!true) = true from Bool.false_ne_true)).trans (ob_o (opt_ok b2) (ob_o (neInt _ _) ?_))
      rw [decide_eq_true rfl]
      refine (if_neg (show ¬ (!true) = true from Bool.false_ne_true)).trans (ob_o (isIB r) ?_)
      exact (if_neg Bool.false_ne_true).trans (isIB q)
  · refine fin_ob () rfl ?_
    refine fin_bind (tfor_inv (fun _ _ => True) _ (fun _ s _ d hd => ?_) trivial) (fun s _ => trivial)
    refine fin_ob _ (rgO1_ok (by decide) (by decide)) ?_
    refine fin_bind (tfor_inv (fun _ _ => True) _ (fun _ s _ y hy => ?_) trivial) (fun s _ => trivial)
    have bad := wrongs (N := (n, E, near n E)) hd
    refine fin_ob _ (opt_ok (refused_a bad)) (fin_ob false ?_ trivial)
    refine (if_neg (show ¬ (!true) = true from Bool.false_ne_true)).trans (ob_o (opt_ok (refused_b (place_ok (by decide) (by show (0 : Int) < n; omega)) bad)) rfl)
end LW
set_option Elab.async false
set_option linter.all false
set_option maxRecDepth 100000
set_option maxHeartbeats 4000000
theorem LW.law_true : ∀ ns : List Int, ns.length ≤ 63 → LW.f_law [.fz (ns.map .int)] = .ok (.bl true) := fun ns h => TL.RG.of (LW.tp_law ns) (LW.t_true ns h)
open PySem PySem.W PyProof.Rows in
set_option maxRecDepth 100000 in
set_option maxHeartbeats 0 in
theorem PySem.Challenge.cw_hedgeways_k35_where_they_go_holds : PySem.Challenge.rw_hedgeways_k35_where_they_go.Holds := by
  w_on; o_law; k_head; (case hw => w_witness2)
  k_fill
  refine DL.walk_D (l := PySem.Challenge.rw_hedgeways_k35_where_they_go) (k := 7) rfl rfl ⟨rfl, by decide, by decide⟩ (fun w h Y => PySem.W.kIn_of Y) ?F
  case F =>
    intro w mg fa h KX G hmg
    refine' LW.all_mk LW.law_true KX G hmg ?z_abs ?z_all ?z_any ?z_bool ?z_int ?z_isinstance ?z_len ?z_list ?z_max ?z_min ?z_range ?z_set ?z_sorted ?z_tuple ?y_MOST_PLACES ?e1_BadNet ?e2_BadNet ?e3_BadNet ?e4_BadNet ?e5_BadNet ?e6_BadNet ?e1_BadPlace ?e2_BadPlace ?e3_BadPlace ?e4_BadPlace ?e5_BadPlace ?e6_BadPlace ?k1_Net ?k2_Net ?k3_Net ?k4_Net ?k5_Net ?k6_Net ?k7_Net ?k1_Times ?k2_Times ?k3_Times ?k4_Times ?k5_Times ?k6_Times ?k7_Times ?nf_Net__near ?nf_Net_pairs ?nf_Net_size ?nf_Times_before ?nf_Times_behind ?nf_Times_net ?x_BadPlace_BadPlace ?h1_law_draws_u ?h2_law_draws_u ?h3_law_draws_u ?h4_law_draws_u ?h1_law_net_u ?h2_law_net_u ?h3_law_net_u ?h4_law_net_u ?h1_law_times_u ?h2_law_times_u ?h3_law_times_u ?h4_law_times_u ?h1_is_whole ?h2_is_whole ?h3_is_whole ?h4_is_whole ?h1_are_pairs_u ?h2_are_pairs_u ?h3_are_pairs_u ?h4_are_pairs_u ?h1_Net_init ?h5_Net_init ?h2_Net_init ?h3_Net_init ?h4_Net_init ?h1_law_ways_u ?h2_law_ways_u ?h3_law_ways_u ?h4_law_ways_u ?h1_check_place ?h2_check_place ?h3_check_place ?h4_check_place ?h1_Net_ways ?h5_Net_ways ?h2_Net_ways ?h3_Net_ways ?h4_Net_ways ?h1_Times_best ?h5_Times_best ?h2_Times_best ?h3_Times_best ?h4_Times_best ?h1_chaser_goes_u ?h2_chaser_goes_u ?h3_chaser_goes_u ?h4_chaser_goes_u ?h1_Times_step_u ?h5_Times_step_u ?h2_Times_step_u ?h3_Times_step_u ?h4_Times_step_u ?h1_Times_init ?h5_Times_init ?h2_Times_init ?h3_Times_init ?h4_Times_init ?h1_chaser_goes ?h2_chaser_goes ?h3_chaser_goes ?h4_chaser_goes ?h1_Times_worst ?h5_Times_worst ?h2_Times_worst ?h3_Times_worst ?h4_Times_worst ?h1_thief_goes_u ?h2_thief_goes_u ?h3_thief_goes_u ?h4_thief_goes_u ?h1_thief_goes ?h2_thief_goes ?h3_thief_goes ?h4_thief_goes ?h1_law_behind_u ?h2_law_behind_u ?h3_law_behind_u ?h4_law_behind_u ?h1_law_chaser_u ?h2_law_chaser_u ?h3_law_chaser_u ?h4_law_chaser_u ?h1_law_thief_u ?h2_law_thief_u ?h3_law_thief_u ?h4_law_thief_u ?h1_law_refused_u ?h2_law_refused_u ?h3_law_refused_u ?h4_law_refused_u ?h1_law ?h2_law ?h3_law ?h4_law
    (case z_abs => k_is)
    (case z_all => k_is)
    (case z_any => k_is)
    (case z_bool => k_is)
    (case z_int => k_is)
    (case z_isinstance => k_is)
    (case z_len => k_is)
    (case z_list => k_is)
    (case z_max => k_is)
    (case z_min => k_is)
    (case z_range => k_is)
    (case z_set => k_is)
    (case z_sorted => k_is)
    (case z_tuple => k_is)
    (case y_MOST_PLACES => k_is)
    (case e1_BadNet => k_is)
    (case e2_BadNet => k_exc)
    (case e3_BadNet => k_is)
    (case e4_BadNet => k_is)
    (case e5_BadNet => k_is)
    (case e6_BadNet => k_is)
    (case e1_BadPlace => k_is)
    (case e2_BadPlace => k_exc)
    (case e3_BadPlace => k_is)
    (case e4_BadPlace => k_is)
    (case e5_BadPlace => k_is)
    (case e6_BadPlace => k_is)
    (case k1_Net => k_is)
    (case k2_Net => k_is)
    (case k3_Net => k_is)
    (case k4_Net => k_is)
    (case k5_Net => k_is)
    (case k6_Net => k_is)
    (case k7_Net => k_is)
    (case k1_Times => k_is)
    (case k2_Times => k_is)
    (case k3_Times => k_is)
    (case k4_Times => k_is)
    (case k5_Times => k_is)
    (case k6_Times => k_is)
    (case k7_Times => k_is)
    (case nf_Net__near => k_is)
    (case nf_Net_pairs => k_is)
    (case nf_Net_size => k_is)
    (case nf_Times_before => k_is)
    (case nf_Times_behind => k_is)
    (case nf_Times_net => k_is)
    (case x_BadPlace_BadPlace => first | rfl | k_is)
    (case h1_law_draws_u => k_is)
    (case h2_law_draws_u => k_is)
    (case h3_law_draws_u => k_is)
    (case h4_law_draws_u => k_is)
    (case h1_law_net_u => k_is)
    (case h2_law_net_u => k_is)
    (case h3_law_net_u => k_is)
    (case h4_law_net_u => k_is)
    (case h1_law_times_u => k_is)
    (case h2_law_times_u => k_is)
    (case h3_law_times_u => k_is)
    (case h4_law_times_u => k_is)
    (case h1_is_whole => k_is)
    (case h2_is_whole => k_is)
    (case h3_is_whole => k_is)
    (case h4_is_whole => k_is)
    (case h1_are_pairs_u => k_is)
    (case h2_are_pairs_u => k_is)
    (case h3_are_pairs_u => k_is)
    (case h4_are_pairs_u => k_is)
    (case h1_Net_init => k_is)
    (case h5_Net_init => k_is)
    (case h2_Net_init => k_is)
    (case h3_Net_init => k_is)
    (case h4_Net_init => k_is)
    (case h1_law_ways_u => k_is)
    (case h2_law_ways_u => k_is)
    (case h3_law_ways_u => k_is)
    (case h4_law_ways_u => k_is)
    (case h1_check_place => k_is)
    (case h2_check_place => k_is)
    (case h3_check_place => k_is)
    (case h4_check_place => k_is)
    (case h1_Net_ways => k_is)
    (case h5_Net_ways => k_is)
    (case h2_Net_ways => k_is)
    (case h3_Net_ways => k_is)
    (case h4_Net_ways => k_is)
    (case h1_Times_best => k_is)
    (case h5_Times_best => k_is)
    (case h2_Times_best => k_is)
    (case h3_Times_best => k_is)
    (case h4_Times_best => k_is)
    (case h1_chaser_goes_u => k_is)
    (case h2_chaser_goes_u => k_is)
    (case h3_chaser_goes_u => k_is)
    (case h4_chaser_goes_u => k_is)
    (case h1_Times_step_u => k_is)
    (case h5_Times_step_u => k_is)
    (case h2_Times_step_u => k_is)
    (case h3_Times_step_u => k_is)
    (case h4_Times_step_u => k_is)
    (case h1_Times_init => k_is)
    (case h5_Times_init => k_is)
    (case h2_Times_init => k_is)
    (case h3_Times_init => k_is)
    (case h4_Times_init => k_is)
    (case h1_chaser_goes => k_is)
    (case h2_chaser_goes => k_is)
    (case h3_chaser_goes => k_is)
    (case h4_chaser_goes => k_is)
    (case h1_Times_worst => k_is)
    (case h5_Times_worst => k_is)
    (case h2_Times_worst => k_is)
    (case h3_Times_worst => k_is)
    (case h4_Times_worst => k_is)
    (case h1_thief_goes_u => k_is)
    (case h2_thief_goes_u => k_is)
    (case h3_thief_goes_u => k_is)
    (case h4_thief_goes_u => k_is)
    (case h1_thief_goes => k_is)
    (case h2_thief_goes => k_is)
    (case h3_thief_goes => k_is)
    (case h4_thief_goes => k_is)
    (case h1_law_behind_u => k_is)
    (case h2_law_behind_u => k_is)
    (case h3_law_behind_u => k_is)
    (case h4_law_behind_u => k_is)
    (case h1_law_chaser_u => k_is)
    (case h2_law_chaser_u => k_is)
    (case h3_law_chaser_u => k_is)
    (case h4_law_chaser_u => k_is)
    (case h1_law_thief_u => k_is)
    (case h2_law_thief_u => k_is)
    (case h3_law_thief_u => k_is)
    (case h4_law_thief_u => k_is)
    (case h1_law_refused_u => k_is)
    (case h2_law_refused_u => k_is)
    (case h3_law_refused_u => k_is)
    (case h4_law_refused_u => k_is)
    (case h1_law => k_is)
    (case h2_law => k_is)
    (case h3_law => k_is)
    (case h4_law => k_is)
