import PyProof.Rows.All
import Wide.All
import OpenK.AllK
import Wide.FinOn
import HandS.ForMost
import HandS.ForExc
import HandS.Wide
import HandS.TupAny
import HandS.TupMul
import HandS.IsInst
import HandS.Deep
import HandS.Sort
import HandS.SortInts
import HandS.WideBits
import HandS.Style
import HandS.WideMore
import HandS.Zip
import KE.GoesEnum
import HandS.CallSlots
import HandS.Defaults
import HandS.MakeKwOnly
import HandS.Conv
import HandS.More
import HandS.CallLocal
import HandS.TupLen
import HandS.Text
import HandS.MakeKw
import HandS.Words
import HandS.Head0
import HandS.Head1
import HandS.Head2
import HandS.HeadEnd
import HandS.HeadHook1
import HandS.HeadHook2
import HandS.HeadHook3
import HandS.HeadHook4
import KE.KStrOpen
import PySem.Challenge.RW_endlessinn_k69_rooms_judged
import HandS.HeadWalk
import Wide.Once
set_option Elab.async false
set_option linter.all false
set_option autoImplicit false
set_option maxRecDepth 100000
set_option maxHeartbeats 4000000
/-! Den: Python data as plain data, defs as plain functions over it -/
namespace Dn
open PySem PySem.Spec PyProof.Rows L2

/-! ### data -/
inductive D where
  | non | bl (b : Bool) | int (i : Int) | str (x : Str) | tup (xs : List D) | lst (xs : List D) | dct (ks : List Key) (vs : List D) | fn (j : Nat) | scr (ns : List Int)
structure Ex where
  cls : Nat
  fs : List D
abbrev Lc := List (Option D)
inductive R (α : Type) where
  | ok (a : α) | exc (x : Ex) (e : Lc) | bad
def R.bind {α β : Type} (r : R α) (k : α → R β) : R β := match r with
  | .ok a => k a
  | .exc x e => .exc x e
  | .bad => .bad
def R.at {α : Type} (r : R α) (e : Lc) : R (α × Lc) := match r with
  | .ok a => .ok (a, e)
  | .exc x _ => .exc x e
  | .bad => .bad
@[simp] theorem R.bind_ok {α β : Type} (a : α) (k : α → R β) : (R.ok a).bind k = k a := rfl
@[simp] theorem R.bind_exc {α β : Type} (x : Ex) (e : Lc) (k : α → R β) : (R.exc x e).bind k = .exc x e := rfl
@[simp] theorem R.bind_bad {α β : Type} (k : α → R β) : (R.bad).bind k = .bad := rfl
@[simp] theorem R.at_ok {α : Type} (a : α) (e : Lc) : (R.ok a).at e = .ok (a, e) := rfl
@[simp] theorem R.at_exc {α : Type} (x : Ex) (e e' : Lc) : (R.exc x e' : R α).at e = .exc x e := rfl
@[simp] theorem R.at_bad {α : Type} (e : Lc) : (R.bad : R α).at e = .bad := rfl
/-- what a run gives satisfies P, what it raises E; it isn't bad -/
def Out {α : Type} (P : α → Prop) (E : Ex → Lc → Prop) : R α → Prop
  | .ok a => P a
  | .exc x e => E x e
  | .bad => False
theorem Out.bind {α β : Type} {P : β → Prop} {E : Ex → Lc → Prop} {r : R α} {k : α → R β} (h : Out P E (r.bind k)) : Out (fun a => Out P E (k a)) E r := by
  cases r <;> exact h
theorem Out.imp {α : Type} {P P' : α → Prop} {E E' : Ex → Lc → Prop} {r : R α} (h : Out P E r) (hp : ∀ a, P a → P' a) (he : ∀ x e, E x e → E' x e) : Out P' E' r := by
  cases r with
  | ok a => exact hp a h
  | exc x e => exact he x e h
  | bad => exact h

/-! ### what a datum is in the heap -/
structure Kx where
  K : PySem.W.Frag
  fn : Nat → Option Addr
  cl : Nat → Value → Prop
mutual
def IsD (k : Kx) (H : Hp) (M : Addr → Prop) : D → V → Prop
  | .non, v => v = .non
  | .bl b, v => v = .bl b
  | .int i, v => v = .int i
  | .str x, v => v = .str x
  | .tup ds, v => ∃ a vs, v = .ref a ∧ SqT k.K H a vs ∧ IsDs k H M ds vs
  | .lst ds, v => ∃ a vs, v = .ref a ∧ H a = some (.lst vs) ∧ ¬ M a ∧ IsDs k H M ds vs
  | .dct ks ds, v => ∃ a kvs, v = .ref a ∧ H a = some (.dK kvs) ∧ ¬ M a ∧ kvs.map (·.1) = ks ∧ IsDs k H M ds (kvs.map (·.2))
  | .fn j, v => ∃ a, v = .ref a ∧ k.fn j = some a
  | .scr ns, v => ∃ a, v = .ref a ∧ ∀ H' : Hp, (∀ o u, H a = some (.frz o u) → H' a = some (.frz o u)) → SqL k.K H' a (ns.map V.int)
def IsDs (k : Kx) (H : Hp) (M : Addr → Prop) : List D → List V → Prop
  | [], vs => vs = []
  | d :: ds, vs => ∃ v r, vs = v :: r ∧ IsD k H M d v ∧ IsDs k H M ds r
end
/-- objects that never change -/
def Fx : HO → Prop
  | .tup _ => True
  | .frz _ _ => True
  | _ => False
def Ext (M : Addr → Prop) (H H' : Hp) : Prop := ∀ a o, H a = some o → (¬ M a ∨ Fx o) → H' a = some o
theorem Ext.refl (M : Addr → Prop) (H : Hp) : Ext M H H := fun _ _ h _ => h
theorem Ext.trans {M : Addr → Prop} {H H1 H2 : Hp} (a : Ext M H H1) (b : Ext M H1 H2) : Ext M H H2 := fun c o h n => b c o (a c o h n) n
theorem Ext.sqT {M : Addr → Prop} {K : PySem.W.Frag} {H H' : Hp} {a : Addr} {vs : List V} (x : Ext M H H') (h : SqT K H a vs) : SqT K H' a vs := by
  rcases h with (h | ⟨o, h⟩) | h
  · exact .inl (.inl (x _ _ h (.inr trivial)))
  · exact .inl (.inr ⟨o, x _ _ h (.inr trivial)⟩)
  · exact .inr h
theorem Ext.rd {M : Addr → Prop} {H H' : Hp} {a : Addr} {u : HO} (x : Ext M H H') (h : Rd H a u) (n : ¬ M a) : Rd H' a u := by
  rcases h with h | ⟨o, h⟩
  · exact .inl (x _ _ h (.inl n))
  · exact .inr ⟨o, x _ _ h (.inl n)⟩
mutual
theorem IsD.step {k : Kx} {H H' : Hp} {M M' : Addr → Prop} (x : Ext M H H') (m : ∀ a, M' a → M a ∨ H a = none) : ∀ (d : D) (v : V), IsD k H M d v → IsD k H' M' d v
  | .non, _, h => h
  | .bl _, _, h => h
  | .int _, _, h => h
  | .str _, _, h => h
  | .tup ds, v, ⟨a, vs, e, hs, h⟩ => ⟨a, vs, e, x.sqT hs, IsDs.step x m ds vs h⟩
  | .lst ds, v, ⟨a, vs, e, hs, n, h⟩ => ⟨a, vs, e, x a _ hs (.inl n), fun z => (m a z).elim n fun z => (by
      rw [z] at hs
      cases hs), IsDs.step x m ds vs h⟩
  | .dct ks ds, v, ⟨a, kvs, e, hs, n, ek, h⟩ => ⟨a, kvs, e, x a _ hs (.inl n), fun z => (m a z).elim n fun z => (by
      rw [z] at hs
      cases hs), ek, IsDs.step x m ds _ h⟩
  | .fn _, _, h => h
  | .scr ns, v, ⟨a, e, hs⟩ => ⟨a, e, fun H2 h2 => hs H2 fun o u q => h2 o u (x a _ q (.inr trivial))⟩
theorem IsDs.step {k : Kx} {H H' : Hp} {M M' : Addr → Prop} (x : Ext M H H') (m : ∀ a, M' a → M a ∨ H a = none) : ∀ (ds : List D) (vs : List V), IsDs k H M ds vs → IsDs k H' M' ds vs
  | [], _, h => h
  | d :: ds, vs, ⟨v, r, e, h1, h2⟩ => ⟨v, r, e, IsD.step x m d v h1, IsDs.step x m ds r h2⟩
end
theorem IsD.mono {k : Kx} {H : Hp} {M M' : Addr → Prop} {d : D} {v : V} (h : IsD k H M d v) (m : ∀ a, M' a → M a) : IsD k H M' d v := IsD.step (Ext.refl _ _) (fun a z => .inl (m a z)) d v h
theorem IsDs.mono {k : Kx} {H : Hp} {M M' : Addr → Prop} {ds : List D} {vs : List V} (h : IsDs k H M ds vs) (m : ∀ a, M' a → M a) : IsDs k H M' ds vs := IsDs.step (Ext.refl _ _) (fun a z => .inl (m a z)) ds vs h
theorem IsDs.length {k : Kx} {H : Hp} {M : Addr → Prop} : ∀ {ds : List D} {vs : List V}, IsDs k H M ds vs → vs.length = ds.length
  | [], _, h => by rw [show _ = [] from h]; rfl
  | d :: ds, vs, ⟨v, r, e, _, h2⟩ => by rw [e, List.length_cons, List.length_cons, IsDs.length h2]
theorem IsDs.get {k : Kx} {H : Hp} {M : Addr → Prop} : ∀ {ds : List D} {vs : List V} {i : Nat} {d : D}, IsDs k H M ds vs → ds[i]? = some d → ∃ v, vs[i]? = some v ∧ IsD k H M d v
  | [], _, _, _, _, e => by simp at e
  | d :: ds, vs, 0, d', ⟨v, r, e, h1, h2⟩, e' => by
    simp at e'
    subst e' e
    exact ⟨v, rfl, h1⟩
  | d :: ds, vs, i + 1, d', ⟨v, r, e, h1, h2⟩, e' => by
    subst e
    obtain ⟨v', a, b⟩ := IsDs.get (i := i) (d := d') h2 (by simpa using e')
    exact ⟨v', by simpa using a, b⟩
theorem IsDs.nil {k : Kx} {H : Hp} {M : Addr → Prop} : IsDs k H M [] [] := rfl
theorem IsDs.cons {k : Kx} {H : Hp} {M : Addr → Prop} {d : D} {ds : List D} {v : V} {vs : List V} (h : IsD k H M d v) (t : IsDs k H M ds vs) : IsDs k H M (d :: ds) (v :: vs) := ⟨v, vs, rfl, h, t⟩
theorem IsDs.app {k : Kx} {H : Hp} {M : Addr → Prop} : ∀ {ds es : List D} {vs ws : List V}, IsDs k H M ds vs → IsDs k H M es ws → IsDs k H M (ds ++ es) (vs ++ ws)
  | [], _, _, _, h, t => by
    rw [show _ = [] from h]
    exact t
  | d :: ds, es, vs, ws, ⟨v, r, e, h1, h2⟩, t => by
    subst e
    exact ⟨v, r ++ ws, rfl, h1, IsDs.app h2 t⟩
theorem IsDs.drop {k : Kx} {H : Hp} {M : Addr → Prop} : ∀ {ds : List D} {vs : List V} (n : Nat), IsDs k H M ds vs → IsDs k H M (ds.drop n) (vs.drop n)
  | [], _, n, h => by
    rw [show _ = [] from h]
    simp [IsDs]
  | d :: ds, vs, 0, h => h
  | d :: ds, vs, n + 1, ⟨v, r, e, _, h2⟩ => by
    subst e
    exact IsDs.drop n h2
theorem IsDs.take {k : Kx} {H : Hp} {M : Addr → Prop} : ∀ {ds : List D} {vs : List V} (n : Nat), IsDs k H M ds vs → IsDs k H M (ds.take n) (vs.take n)
  | [], _, n, h => by
    rw [show _ = [] from h]
    simp [IsDs]
  | d :: ds, vs, 0, h => rfl
  | d :: ds, vs, n + 1, ⟨v, r, e, h1, h2⟩ => by
    subst e
    exact ⟨v, r.take n, rfl, h1, IsDs.take n h2⟩
theorem IsDs.set {k : Kx} {H : Hp} {M : Addr → Prop} {d : D} {v : V} (h : IsD k H M d v) : ∀ {ds : List D} {vs : List V} (n : Nat), IsDs k H M ds vs → IsDs k H M (ds.set n d) (vs.set n v)
  | [], _, n, h => by
    rw [show _ = [] from h]
    simp [IsDs]
  | _ :: ds, vs, 0, ⟨v', r, e, h1, h2⟩ => by
    subst e
    exact ⟨v, r, rfl, h, h2⟩
  | d' :: ds, vs, n + 1, ⟨v', r, e, h1, h2⟩ => by
    subst e
    exact ⟨v', r.set n v, rfl, h1, IsDs.set h n h2⟩
theorem IsDs.rev {k : Kx} {H : Hp} {M : Addr → Prop} : ∀ {ds : List D} {vs : List V}, IsDs k H M ds vs → IsDs k H M ds.reverse vs.reverse
  | [], _, h => by
    rw [show _ = [] from h]
    exact rfl
  | d :: ds, vs, ⟨v, r, e, h1, h2⟩ => by
    subst e
    rw [List.reverse_cons, List.reverse_cons]
    exact (IsDs.rev h2).app (.cons h1 .nil)

/-- as IsD, but a list or dict may be one's own -/
def era (H : Hp) (q : Addr) : Hp := fun b => if b = q then none else H b
theorem era_same {H : Hp} {q : Addr} : era H q q = none := by
  unfold era
  rw [if_pos rfl]
theorem era_ne {H : Hp} {q b : Addr} (h : b ≠ q) : era H q b = H b := by
  unfold era
  rw [if_neg h]
theorem era_upd {H : Hp} {q : Addr} {o : HO} (h : H q = some o) : upd (era H q) q o = H := by
  funext b
  by_cases e : b = q
  · subst e
    rw [upd_same, h]
  · rw [upd_ne e, era_ne e]
mutual
theorem IsD.era {k : Kx} {H : Hp} {M M' : Addr → Prop} {q : Addr} {o : HO} (hq : H q = some o) (ho : ¬ Fx o) (hM : M q) (hm : ∀ a, M' a → M a) : ∀ (d : D) (v : V), IsD k H M d v → IsD k (era H q) M' d v
  | .non, _, h => h
  | .bl _, _, h => h
  | .int _, _, h => h
  | .str _, _, h => h
  | .tup ds, v, ⟨a, vs, e, hs, h⟩ => by
    have fx : ∀ {a u}, H a = some u → Fx u → Dn.era H q a = some u := fun {a u} h f => by
      rw [era_ne]
      · exact h
      · intro z
        rw [z, hq] at h
        cases h
        exact ho f
    refine ⟨a, vs, e, ?_, IsDs.era hq ho hM hm ds vs h⟩
    rcases hs with (hs | ⟨ob, hs⟩) | hs
    · exact .inl (.inl (fx hs trivial))
    · exact .inl (.inr ⟨ob, fx hs trivial⟩)
    · exact .inr hs
  | .lst ds, v, ⟨a, vs, e, hs, n, h⟩ => ⟨a, vs, e, by rw [era_ne (fun z => n (by rw [z]; exact hM))]; exact hs, fun z => n (hm a z), IsDs.era hq ho hM hm ds vs h⟩
  | .dct ks ds, v, ⟨a, kvs, e, hs, n, ek, h⟩ => ⟨a, kvs, e, by rw [era_ne (fun z => n (by rw [z]; exact hM))]; exact hs, fun z => n (hm a z), ek, IsDs.era hq ho hM hm ds _ h⟩
  | .fn _, _, h => h
  | .scr ns, v, ⟨a, e, hs⟩ => ⟨a, e, fun H2 h2 => hs H2 fun ob u z => h2 ob u (by
      rw [era_ne]
      · exact z
      · intro y
        rw [y, hq] at z
        cases z
        exact ho trivial)⟩
theorem IsDs.era {k : Kx} {H : Hp} {M M' : Addr → Prop} {q : Addr} {o : HO} (hq : H q = some o) (ho : ¬ Fx o) (hM : M q) (hm : ∀ a, M' a → M a) : ∀ (ds : List D) (vs : List V), IsDs k H M ds vs → IsDs k (Dn.era H q) M' ds vs
  | [], _, h => h
  | d :: ds, vs, ⟨v, r, e, h1, h2⟩ => ⟨v, r, e, IsD.era hq ho hM hm d v h1, IsDs.era hq ho hM hm ds r h2⟩
end
theorem era_new {H : Hp} {q : Addr} {o : HO} (h : H q = none) : era (upd H q o) q = H := by
  funext b
  by_cases e : b = q
  · subst e
    rw [era_same, h]
  · rw [era_ne e, upd_ne e]
def IsT (k : Kx) (H : Hp) (M : Addr → Prop) : D → V → Prop
  | .lst ds, v => ∃ a vs, v = .ref a ∧ H a = some (.lst vs) ∧ IsDs k H M ds vs
  | .dct ks ds, v => ∃ a kvs, v = .ref a ∧ H a = some (.dK kvs) ∧ kvs.map (·.1) = ks ∧ IsDs k H M ds (kvs.map (·.2))
  | d, v => IsD k H M d v
theorem IsD.t {k : Kx} {H : Hp} {M : Addr → Prop} {d : D} {v : V} (h : IsD k H M d v) : IsT k H M d v := by
  cases d with
  | lst ds =>
    obtain ⟨a, vs, e, h1, _, h2⟩ := h
    exact ⟨a, vs, e, h1, h2⟩
  | dct ks ds =>
    obtain ⟨a, vs, e, h1, _, h2⟩ := h
    exact ⟨a, vs, e, h1, h2⟩
  | _ => exact h
def IsTs (k : Kx) (H : Hp) (M : Addr → Prop) : List D → List V → Prop
  | [], vs => vs = []
  | d :: ds, vs => ∃ v r, vs = v :: r ∧ IsT k H M d v ∧ IsTs k H M ds r
theorem IsDs.t {k : Kx} {H : Hp} {M : Addr → Prop} : ∀ {ds : List D} {vs : List V}, IsDs k H M ds vs → IsTs k H M ds vs
  | [], _, h => h
  | _ :: _, _, ⟨v, r, e, h1, h2⟩ => ⟨v, r, e, h1.t, h2.t⟩

/-! ### a body's static part, its states -/
structure Ct where
  k : Kx
  own : List Nat
  par : Option Addr
  M : Addr → Prop
  H0 : Hp
  W : WX
  nw : Bool
def OW (C : Ct) (σ : L2.St) (a : Addr) : Prop := ∃ i, i ∈ C.own ∧ σ[i]? = some (some (.ref a))
def MO (C : Ct) (σ : L2.St) (a : Addr) : Prop := C.M a ∨ OW C σ a
theorem Ext.mo {C : Ct} {σ : L2.St} {H H' : Hp} (x : Ext (OW C σ) H H') : Ext (MO C σ) H H' := fun a o h n => x a o h (n.imp (fun n z => n (.inr z)) id)
def OwnD (k : Kx) (H : Hp) (M : Addr → Prop) : D → Addr → Prop
  | .lst ds, a => ∃ vs, H a = some (.lst vs) ∧ IsDs k H M ds vs
  | .dct ks ds, a => ∃ kvs, H a = some (.dK kvs) ∧ kvs.map (·.1) = ks ∧ IsDs k H M ds (kvs.map (·.2))
  | _, _ => False
theorem OwnD.t {k : Kx} {H : Hp} {M : Addr → Prop} {d : D} {a : Addr} (h : OwnD k H M d a) : IsT k H M d (.ref a) := by
  cases d with
  | lst ds =>
    obtain ⟨vs, h1, h2⟩ := h
    exact ⟨a, vs, rfl, h1, h2⟩
  | dct ks ds =>
    obtain ⟨kvs, h1, h2, h3⟩ := h
    exact ⟨a, kvs, rfl, h1, h2, h3⟩
  | _ => exact h.elim
theorem OwnD.era {k : Kx} {H : Hp} {M M' : Addr → Prop} {q : Addr} {o : HO} (hq : H q = some o) (ho : ¬ Fx o) (hM : M q) (hm : ∀ a, M' a → M a) {d : D} {a : Addr} (h : OwnD k H M d a) (ha : a ≠ q) : OwnD k (Dn.era H q) M' d a := by
  cases d with
  | lst ds =>
    obtain ⟨vs, h1, h2⟩ := h
    exact ⟨vs, by rw [era_ne ha]; exact h1, IsDs.era hq ho hM hm _ _ h2⟩
  | dct ks ds =>
    obtain ⟨kvs, h1, h2, h3⟩ := h
    exact ⟨kvs, by rw [era_ne ha]; exact h1, h2, IsDs.era hq ho hM hm _ _ h3⟩
  | _ => exact h.elim
structure SR (C : Ct) (e : Lc) (σ : L2.St) (H : Hp) : Prop where
  len : e.length = σ.length
  val : ∀ i d, i ∉ C.own → e[i]? = some (some d) → ∃ v, σ[i]? = some (some v) ∧ IsD C.k H (MO C σ) d v
  ow : ∀ i d, i ∈ C.own → e[i]? = some (some d) → ∃ a, σ[i]? = some (some (.ref a)) ∧ OwnD C.k H (MO C σ) d a
  dist : ∀ i j a, i ∈ C.own → j ∈ C.own → σ[i]? = some (some (.ref a)) → σ[j]? = some (some (.ref a)) → i = j
  fr : ∀ i a, i ∈ C.own → σ[i]? = some (some (.ref a)) → C.H0 a = none ∨ C.par = some a
  ext : ∀ a o, C.H0 a = some o → (C.par ≠ some a ∨ Fx o) → H a = some o
  al : ∀ a, C.M a → ∃ o, H a = some o
  nm : ∀ i a, i ∈ C.own → σ[i]? = some (some (.ref a)) → ¬ C.M a ∨ C.par = some a
  alo : ∀ i a, i ∈ C.own → σ[i]? = some (some (.ref a)) → ∃ o, H a = some o
  p0 : ∀ a, C.par = some a → σ[0]? = some (some (.ref a))
  pm : ∀ a, C.par = some a → ∃ o, H a = some o
/-- a step of a body: what isn't owned stays; what is owned was, or is new -/
structure Stp (C : Ct) (σ : L2.St) (H : Hp) (σ' : L2.St) (H' : Hp) : Prop where
  ex : Ext (OW C σ) H H'
  ow : ∀ a, OW C σ' a → OW C σ a ∨ H a = none
theorem Stp.mo {C : Ct} {σ σ1 : L2.St} {H H1 : Hp} (a : Stp C σ H σ1 H1) : ∀ b, MO C σ1 b → MO C σ b ∨ H b = none := fun b z => by
  rcases z with z | z
  · exact .inl (.inl z)
  · exact (a.ow b z).imp .inr id
theorem Stp.refl {C : Ct} {σ : L2.St} {H : Hp} : Stp C σ H σ H := ⟨Ext.refl _ _, fun _ z => .inl z⟩
theorem Stp.trans {C : Ct} {σ σ1 σ2 : L2.St} {H H1 H2 : Hp} (a : Stp C σ H σ1 H1) (b : Stp C σ1 H1 σ2 H2) : Stp C σ H σ2 H2 := by
  refine ⟨fun c o h n => ?_, fun c z => ?_⟩
  · have h1 := a.ex c o h n
    refine b.ex c o h1 ?_
    rcases n with n | n
    · refine .inl fun z => ?_
      rcases a.ow c z with z | z
      · exact n z
      · rw [h] at z
        cases z
    · exact .inr n
  · rcases b.ow c z with z | z
    · exact a.ow c z
    · cases e : H c with
      | none => exact .inr rfl
      | some o =>
        refine .inl (Classical.byContradiction fun n => ?_)
        rw [a.ex c o e (.inl n)] at z
        cases z
theorem Stp.isD {C : Ct} {σ σ' : L2.St} {H H' : Hp} (a : Stp C σ H σ' H') {d : D} {v : V} (h : IsD C.k H (MO C σ) d v) : IsD C.k H' (MO C σ') d v := IsD.step a.ex.mo a.mo d v h
theorem Stp.isDs {C : Ct} {σ σ' : L2.St} {H H' : Hp} (a : Stp C σ H σ' H') {ds : List D} {vs : List V} (h : IsDs C.k H (MO C σ) ds vs) : IsDs C.k H' (MO C σ') ds vs := IsDs.step a.ex.mo a.mo ds vs h
theorem Stp.of {C : Ct} {σ : L2.St} {H H' : Hp} (x : Ext (OW C σ) H H') : Stp C σ H σ H' := ⟨x, fun _ z => .inl z⟩
theorem Ext.upd {M : Addr → Prop} {H : Hp} {p : Addr} {o : HO} (h : H p = none) : Ext M H (upd H p o) := fun a u e _ => by
  rw [upd_ne (ne_of_none e h)]
  exact e
theorem SR.mod {C : Ct} {e : Lc} {σ : L2.St} {H : Hp} (s : SR C e σ H) {a : Addr} (h : MO C σ a) : ∃ o, H a = some o := by
  rcases h with h | ⟨i, hi, h⟩
  · exact s.al a h
  · exact s.alo i a hi h
theorem OwnD.step {k : Kx} {H H' : Hp} {M M' : Addr → Prop} (x : Ext M H H') (m : ∀ a, M' a → M a ∨ H a = none) {d : D} {a : Addr} (h : OwnD k H M d a) (ha : ∀ o, H a = some o → H' a = some o) : OwnD k H' M' d a := by
  cases d with
  | lst ds =>
    obtain ⟨vs, h1, h2⟩ := h
    exact ⟨vs, ha _ h1, IsDs.step x m _ _ h2⟩
  | dct ks ds =>
    obtain ⟨kvs, h1, h2, h3⟩ := h
    exact ⟨kvs, ha _ h1, h2, IsDs.step x m _ _ h3⟩
  | _ => exact h
/-- a new object -/
theorem SR.grow {C : Ct} {e : Lc} {σ : L2.St} {H : Hp} (s : SR C e σ H) {p : Addr} {o : HO} (hp : H p = none) : SR C e σ (upd H p o) := by
  have x : Ext (MO C σ) H (upd H p o) := Ext.upd hp
  have k : ∀ a u, H a = some u → upd H p o a = some u := fun a u q => by
    rw [upd_ne (ne_of_none q hp)]
    exact q
  refine ⟨s.len, fun i d hi he => ?_, fun i d hi he => ?_, s.dist, s.fr, fun a u q n => k _ _ (s.ext a u q n), fun a h => (s.al a h).imp fun u q => k _ _ q, s.nm, fun i a hi h => ?_, s.p0, fun a h => ?_⟩
  · obtain ⟨v, h1, h2⟩ := s.val i d hi he
    exact ⟨v, h1, IsD.step x (fun _ z => .inl z) _ _ h2⟩
  · obtain ⟨a, h1, h2⟩ := s.ow i d hi he
    exact ⟨a, h1, OwnD.step x (fun _ z => .inl z) h2 (k a)⟩
  · obtain ⟨u, q⟩ := s.alo i a hi h
    exact ⟨u, k _ _ q⟩
  · obtain ⟨u, q⟩ := s.pm a h
    exact ⟨u, k _ _ q⟩
/-- all that stood stands -/
theorem SR.same {C : Ct} {e : Lc} {σ : L2.St} {H H' : Hp} (s : SR C e σ H) (k : Same H H') : SR C e σ H' := by
  have x : Ext (MO C σ) H H' := fun a o h _ => k a o h
  refine ⟨s.len, fun i d hi he => ?_, fun i d hi he => ?_, s.dist, s.fr, fun a u q n => k _ _ (s.ext a u q n), fun a h => (s.al a h).imp fun u q => k _ _ q, s.nm, fun i a hi h => ?_, s.p0, fun a h => ?_⟩
  · obtain ⟨v, h1, h2⟩ := s.val i d hi he
    exact ⟨v, h1, IsD.step x (fun _ z => .inl z) _ _ h2⟩
  · obtain ⟨a, h1, h2⟩ := s.ow i d hi he
    exact ⟨a, h1, OwnD.step x (fun _ z => .inl z) h2 (k a)⟩
  · obtain ⟨u, q⟩ := s.alo i a hi h
    exact ⟨u, k _ _ q⟩
  · obtain ⟨u, q⟩ := s.pm a h
    exact ⟨u, k _ _ q⟩
theorem same_ext {M : Addr → Prop} {H H' : Hp} (k : Same H H') : Ext M H H' := fun a o h _ => k a o h
end Dn

namespace Dn
open PySem PySem.Spec PyProof.Rows L2

/-! ### runs -/
abbrev MD (α : Type) := Lc → R (α × Lc)
def ExR (k : Kx) (M : Addr → Prop) (x : Ex) (cls : Value) (xd : Option Addr) (H : Hp) : Prop := k.cl x.cls cls ∧ ((x.fs = [] ∧ xd = none) ∨ ∃ d fs, xd = some d ∧ H d = some (.xd fs) ∧ IsDs k H M x.fs (fs.map (·.2)))
def XO (C : Ct) (σ : L2.St) (H : Hp) : Ex → Lc → Prop := fun x e => ∀ cls xd H', Ext (OW C σ) H H' → SR C e σ H' → ExR C.k (MO C σ) x cls xd H' → C.W cls xd σ H'
def PO1 (C : Ct) (σ : L2.St) (H : Hp) (Q : VK) : D × Lc → Prop := fun p => ∀ v H', Ext (OW C σ) H H' → SR C p.2 σ H' → IsD C.k H' (MO C σ) p.1 v → Q v H'
def OE (C : Ct) (σ : L2.St) (H : Hp) (Q : VK) (r : R (D × Lc)) : Prop := Out (PO1 C σ H Q) (XO C σ H) r
def tE (C : Ct) (f : MD D) : TE := fun σ H Q => ∃ e, SR C e σ H ∧ OE C σ H Q (f e)
def OT (C : Ct) (σ : L2.St) (H : Hp) (Q : Bool → Hp → Prop) (r : R (Bool × Lc)) : Prop := Out (fun p => ∀ H', Ext (OW C σ) H H' → SR C p.2 σ H' → Q p.1 H') (XO C σ H) r
def tT (C : Ct) (f : MD Bool) : TT := fun σ H Q => ∃ e, SR C e σ H ∧ OT C σ H Q (f e)
def OA (C : Ct) (σ : L2.St) (H : Hp) (Q : List V → Hp → Prop) (r : R (List D × Lc)) : Prop := Out (fun p => ∀ vs H', Ext (OW C σ) H H' → SR C p.2 σ H' → IsDs C.k H' (MO C σ) p.1 vs → Q vs H') (XO C σ H) r
def tA (C : Ct) (f : MD (List D)) : TA := fun σ H Q => ∃ e, SR C e σ H ∧ OA C σ H Q (f e)

section
variable {X : Cx} {C : Ct}
theorem PE.imp {e : Expr} {t t' : TE} (h : PE X e t) (i : ∀ σ H Q, t' σ H Q → t σ H Q) : PE X e t' := ⟨fun pins s σ H Q I hw => h.run pins s σ H Q I (i σ H Q hw)⟩
theorem PT.imp {e : Expr} {t t' : TT} (h : PT X e t) (i : ∀ σ H Q, t' σ H Q → t σ H Q) : PT X e t' := ⟨fun pins s σ H Q I hw => h.run pins s σ H Q I (i σ H Q hw)⟩
theorem PA.imp {e : List Expr} {t t' : TA} (h : PA X e t) (i : ∀ σ H Q, t' σ H Q → t σ H Q) : PA X e t' := ⟨fun pos pins s σ H Q I hw => h.run pos pins s σ H Q I (i σ H Q hw)⟩
theorem PS.imp {e : Stmt} {t t' : TS} (h : PS X e t) (i : ∀ D σ H, t' D σ H → t D σ H) : PS X e t' := ⟨fun pins s σ H D I hw => h.run pins s σ H D I (i D σ H hw)⟩
theorem PSs.imp {e : List Stmt} {t t' : TS} (h : PSs X e t) (i : ∀ D σ H, t' D σ H → t D σ H) : PSs X e t' := ⟨fun pins s σ H D I hw => h.run pins s σ H D I (i D σ H hw)⟩
theorem XO.ext {σ : L2.St} {H H1 : Hp} {x : Ex} {e : Lc} (h : XO C σ H x e) (a : Ext (OW C σ) H H1) : XO C σ H1 x e := fun cls xd H' b => h cls xd H' (a.trans b)

/-! ### names, constants -/
def vr (i : Nat) : MD D := fun e => match e[i]? with
  | some (some d) => .ok (d, e)
  | _ => .bad
def cst (d : D) : MD D := fun e => .ok (d, e)
theorem je_var {i : Nat} {x : Str} {pos : Pos} (ho : i ∉ C.own) (hN : X.N[i]? = some x) (hv : Vis X.env.scope x) (hd : (x == ("__debug__" : Str)) = false := by decide) (hcd : (x == ("__classdict__" : Str)) = false := by decide) : PE X (.Name x pos) (tE C (vr i)) := by
  refine PE.imp (pe_var hN hv hd hcd) fun σ H Q ⟨e, s, o⟩ => ?_
  unfold vr at o
  split at o
  · rename_i d he
    obtain ⟨v, h1, h2⟩ := s.val i d ho he
    exact ⟨v, h1, o v H (Ext.refl _ _) s h2⟩
  · exact o.elim
/-- a value that is a datum in every heap -/
theorem je_cst {e : Expr} {v : V} {d : D} (h : PE X e (tC v)) (hd : ∀ H M, IsD C.k H M d v) : PE X e (tE C (cst d)) := by
  refine PE.imp h fun σ H Q ⟨e, s, o⟩ => o v H (Ext.refl _ _) s (hd _ _)
theorem je_int {i : Int} {j : Nat} {pos : Pos} : PE X (.Constant (.int i) j pos) (tE C (cst (.int i))) := je_cst pe_int fun _ _ => rfl
theorem je_bl {i : Bool} {j : Nat} {pos : Pos} : PE X (.Constant (.bool i) j pos) (tE C (cst (.bl i))) := je_cst pe_bl fun _ _ => rfl
theorem je_non {j : Nat} {pos : Pos} : PE X (.Constant .none j pos) (tE C (cst .non)) := je_cst pe_non fun _ _ => rfl
theorem je_str {x : Str} {j : Nat} {pos : Pos} : PE X (.Constant (.str x) j pos) (tE C (cst (.str x))) := je_cst pe_str fun _ _ => rfl
/-- a module's int -/
theorem je_gint {x : Str} {i : Int} {u : Value} {pos : Pos} (hg : Gl X x) (hm : X.mg x = some u) (r : RelV (.int i) u) (hd : (x == ("__debug__" : Str)) = false := by decide) : PE X (.Name x pos) (tE C (cst (.int i))) := je_cst (pe_glob hg hm r hd) fun _ _ => rfl

/-! ### operators -/
def bin2 (op : D → D → R D) (f g : MD D) : MD D := fun e => (f e).bind fun p => (g p.2).bind fun q => (op p.1 q.1).at q.2
def un1 (op : D → R D) (f : MD D) : MD D := fun e => (f e).bind fun p => (op p.1).at p.2
/-- an operation on data that makes new objects at most -/
def PNew (C : Ct) (σ : L2.St) (H : Hp) (Q : VK) (r : R D) : Prop := Out (fun d => ∀ v H', Same H H' → IsD C.k H' (MO C σ) d v → Q v H') (fun _ _ => False) r
def OpD (C : Ct) (r : R2) (op : D → D → R D) : Prop := ∀ (σ : L2.St) (e : Lc) (H : Hp) (x y : V) (d1 d2 : D) (Q : VK), SR C e σ H → IsT C.k H (MO C σ) d1 x → IsT C.k H (MO C σ) d2 y → PNew C σ H Q (op d1 d2) → r x y H Q
def UnD (C : Ct) (r : V → Hp → VK → Prop) (op : D → R D) : Prop := ∀ (σ : L2.St) (e : Lc) (H : Hp) (x : V) (d1 : D) (Q : VK), SR C e σ H → IsT C.k H (MO C σ) d1 x → PNew C σ H Q (op d1) → r x H Q
theorem PNew.of {σ : L2.St} {e : Lc} {H0 H : Hp} {Q : VK} {r : R D} (h : OE C σ H0 Q (r.at e)) (x : Ext (OW C σ) H0 H) (s : SR C e σ H) (nx : ∀ y l, r ≠ .exc y l) : PNew C σ H Q r := by
  cases r with
  | ok d => exact fun v H' k i => h v H' (x.trans (same_ext k)) (s.same k) i
  | exc y l => exact absurd rfl (nx y l)
  | bad => exact h
theorem tE_bin {r : R2} {op : D → D → R D} {f g : MD D} (ho : OpD C r op) (nx : ∀ a b y l, op a b ≠ .exc y l) (σ : L2.St) (H : Hp) (Q : VK) (h : tE C (bin2 op f g) σ H Q) : tOp r (tE C f) (tE C g) σ H Q := by
  obtain ⟨e, s, o⟩ := h
  refine ⟨e, s, ?_⟩
  refine (Out.bind o).imp (fun p hp => ?_) fun _ _ z => z
  intro v1 H1 x1 s1 i1
  refine ⟨p.2, s1, ?_⟩
  refine (Out.bind hp).imp (fun q hq => ?_) fun _ _ z => z.ext x1
  intro v2 H2 x2 s2 i2
  exact ho σ q.2 H2 v1 v2 p.1 q.1 Q s2 ((Stp.of x2).isD i1).t i2.t (PNew.of hq (x1.trans x2) s2 (nx _ _))
theorem tE_un {r : V → Hp → VK → Prop} {op : D → R D} {f : MD D} (ho : UnD C r op) (nx : ∀ a y l, op a ≠ .exc y l) (σ : L2.St) (H : Hp) (Q : VK) (h : tE C (un1 op f) σ H Q) : tUn r (tE C f) σ H Q := by
  obtain ⟨e, s, o⟩ := h
  refine ⟨e, s, ?_⟩
  refine (Out.bind o).imp (fun p hp => ?_) fun _ _ z => z
  intro v1 H1 x1 s1 i1
  exact ho σ p.2 H1 v1 p.1 Q s1 i1.t (PNew.of hp x1 s1 (nx _))
variable {a b c : Expr} {f g h : MD D} {pos : Pos}
theorem je_op {op : Operator} {r : R2} {F : D → D → R D} (ho : OpR X (binaryOp op) r) (hd : OpD C r F) (nx : ∀ a b y l, F a b ≠ .exc y l) (ha : PE X a (tE C f)) (hb : PE X b (tE C g)) : PE X (.BinOp a op b pos) (tE C (bin2 F f g)) := PE.imp (pe_op ho ha hb) (tE_bin hd nx)
theorem je_cmp {op : CmpOp} {r : R2} {F : D → D → R D} (ho : OpR X (compareOp op) r) (hd : OpD C r F) (nx : ∀ a b y l, F a b ≠ .exc y l) (hm : behindInMarks op b = false) (ha : PE X a (tE C f)) (hb : PE X b (tE C g)) : PE X (.Compare a [op] [b] pos) (tE C (bin2 F f g)) := PE.imp (pe_cmpR ho ha hb hm) (tE_bin hd nx)
/-- the answer as a test -/
def tst (f : MD D) : MD Bool := fun e => (f e).bind fun p => match p.1 with
  | .bl b => .ok (b, p.2)
  | _ => .bad
theorem tT_test {f : MD D} (σ : L2.St) (H : Hp) (Q : Bool → Hp → Prop) (h : tT C (tst f) σ H Q) : tE C f σ H (fun x H' => ∃ k, x = .bl k ∧ Q k H') := by
  obtain ⟨e, s, o⟩ := h
  refine ⟨e, s, (Out.bind o).imp (fun p hp => ?_) fun _ _ z => z⟩
  obtain ⟨d, e1⟩ := p
  intro v H1 x1 s1 i1
  cases d with
  | bl b =>
    cases i1
    exact ⟨b, rfl, hp H1 x1 s1⟩
  | _ => exact hp.elim
theorem jt_cmp {op : CmpOp} {r : R2} {F : D → D → R D} (ho : OpR X (compareOp op) r) (hd : OpD C r F) (nx : ∀ a b y l, F a b ≠ .exc y l) (hm : behindInMarks op b = false) (ha : PE X a (tE C f)) (hb : PE X b (tE C g)) : PT X (.Compare a [op] [b] pos) (tT C (tst (bin2 F f g))) := by
  refine PT.imp (pt_cmpR ho ha hb hm) fun σ H Q h => ?_
  have h1 := tT_test σ H Q h
  exact tE_bin hd nx σ H _ h1
/-- two comparisons in a row -/
def chn (F G : D → D → R D) (f g h : MD D) : MD D := fun e => (f e).bind fun p => (g p.2).bind fun q => (F p.1 q.1).bind fun d => match d with
  | .bl true => (h q.2).bind fun r => (G q.1 r.1).at r.2
  | .bl false => .ok (.bl false, q.2)
  | _ => .bad
theorem tE_chn {r r' : R2} {F G : D → D → R D} (h1 : OpD C r F) (h2 : OpD C r' G) (nx : ∀ a b y l, F a b ≠ .exc y l) (nx' : ∀ a b y l, G a b ≠ .exc y l) (σ : L2.St) (H : Hp) (Q : VK) (hh : tE C (chn F G f g h) σ H Q) : tChain r r' (tE C f) (tE C g) (tE C h) σ H Q := by
  obtain ⟨e, s, o⟩ := hh
  refine ⟨e, s, (Out.bind o).imp (fun p hp => ?_) fun _ _ z => z⟩
  intro v1 H1 x1 s1 i1
  refine ⟨p.2, s1, (Out.bind hp).imp (fun q hq => ?_) fun _ _ z => z.ext x1⟩
  intro v2 H2 x2 s2 i2
  refine h1 σ q.2 H2 v1 v2 p.1 q.1 _ s2 ((Stp.of x2).isD i1).t i2.t ?_
  cases e0 : F p.1 q.1 with
  | exc y l => exact absurd e0 (nx _ _ _ _)
  | bad =>
    rw [e0] at hq
    exact hq
  | ok d =>
    rw [e0] at hq
    intro v3 H3 k3 i3
    cases d with
    | bl b =>
      cases i3
      refine ⟨b, rfl, ?_⟩
      cases b with
      | true =>
        rw [if_pos rfl]
        have hq2 : Out (PO1 C σ H Q) (XO C σ H) ((h q.2).bind fun r => (G q.1 r.1).at r.2) := hq
        refine ⟨q.2, s2.same k3, (Out.bind hq2).imp (fun t ht => ?_) fun _ _ z => z.ext ((x1.trans x2).trans (same_ext k3))⟩
        intro v4 H4 x4 s4 i4
        have x24 : Ext (OW C σ) H2 H4 := (same_ext k3).trans x4
        exact h2 σ t.2 H4 v2 v4 q.1 t.1 Q s4 ((Stp.of x24).isD i2).t i4.t (PNew.of ht ((x1.trans x2).trans x24) s4 (nx' _ _))
      | false =>
        rw [if_neg Bool.false_ne_true]
        exact hq _ H3 ((x1.trans x2).trans (same_ext k3)) (s2.same k3) rfl
    | _ => exact hq.elim
theorem je_chn {op op' : CmpOp} {r r' : R2} {F G : D → D → R D} (ho : OpR X (compareOp op) r) (ho' : OpR X (compareOp op') r') (h1 : OpD C r F) (h2 : OpD C r' G) (nx : ∀ a b y l, F a b ≠ .exc y l) (nx' : ∀ a b y l, G a b ≠ .exc y l)
    (ha : PE X a (tE C f)) (hb : PE X b (tE C g)) (hc : PE X c (tE C h)) (hm : lastMarks [op, op'] [b, c] = false := by with_unfolding_all rfl) : PE X (.Compare a [op, op'] [b, c] pos) (tE C (chn F G f g h)) := PE.imp (pe_chain ho ho' ha hb hc hm) (tE_chn h1 h2 nx nx')
theorem jt_chn {op op' : CmpOp} {r r' : R2} {F G : D → D → R D} (ho : OpR X (compareOp op) r) (ho' : OpR X (compareOp op') r') (h1 : OpD C r F) (h2 : OpD C r' G) (nx : ∀ a b y l, F a b ≠ .exc y l) (nx' : ∀ a b y l, G a b ≠ .exc y l)
    (ha : PE X a (tE C f)) (hb : PE X b (tE C g)) (hc : PE X c (tE C h)) (hm : lastMarks [op, op'] [b, c] = false := by with_unfolding_all rfl) : PT X (.Compare a [op, op'] [b, c] pos) (tT C (tst (chn F G f g h))) := by
  refine PT.imp (pt_chain ho ho' ha hb hc hm) fun σ H Q q => ?_
  exact tE_chn h1 h2 nx nx' σ H _ (tT_test σ H Q q)

/-! ### truth, and, or, not -/
def truR : D → R Bool
  | .non => .ok false
  | .bl b => .ok b
  | .int i => .ok (i != 0)
  | .str x => if x.length ≤ sizeLine then .ok ((x.length : Int) != 0) else .bad
  | .tup ds => .ok (!ds.isEmpty)
  | .lst ds => .ok (!ds.isEmpty)
  | .dct ks _ => .ok (!ks.isEmpty)
  | .fn _ => .bad
  | .scr ns => .ok (!ns.isEmpty)
def tru (f : MD D) : MD Bool := fun e => (f e).bind fun p => (truR p.1).at p.2
theorem isEmpty_ds {k : Kx} {H : Hp} {M : Addr → Prop} {ds : List D} {vs : List V} (h : IsDs k H M ds vs) : ds.isEmpty = vs.isEmpty := by
  have := h.length
  cases ds <;> cases vs <;> simp_all
theorem tru_of {H : Hp} {d : D} {x : V} {M : Addr → Prop} {b : Bool} (i : IsT C.k H M d x) (h : truR d = .ok b) : TruV C.k.K x H b := by
  cases d with
  | non => cases i; cases h; rfl
  | bl b' => cases i; cases h; rfl
  | int j => cases i; cases h; rfl
  | str y =>
    cases i
    have h' : (if y.length ≤ sizeLine then R.ok ((y.length : Int) != 0) else R.bad) = R.ok b := h
    by_cases hy : y.length ≤ sizeLine
    · rw [if_pos hy] at h'
      cases h'
      exact ⟨hy, rfl⟩
    · rw [if_neg hy] at h'
      cases h'
  | tup ds =>
    obtain ⟨a, vs, rfl, h1, h2⟩ := i
    cases h
    exact .inr (.inl ⟨vs, h1, by rw [isEmpty_ds h2]⟩)
  | lst ds =>
    obtain ⟨a, vs, rfl, h1, h2⟩ := i
    cases h
    exact .inl ⟨vs, .inl (.inl h1), by rw [isEmpty_ds h2]⟩
  | dct ks ds =>
    obtain ⟨a, kvs, rfl, h1, h2, h3⟩ := i
    cases h
    refine .inr (.inr ⟨kvs, h1, ?_⟩)
    rw [← h2]
    cases kvs <;> rfl
  | fn j => cases h
  | scr ns =>
    obtain ⟨a, rfl, h1⟩ := i
    cases h
    exact .inl ⟨_, h1 H fun _ _ z => z, by cases ns <;> rfl⟩
theorem truR_nx (d : D) (y : Ex) (l : Lc) : truR d ≠ .exc y l := by
  cases d <;> simp [truR]
  split <;> simp
theorem jt_tru (hK : C.k.K = X.K) (ha : PE X a (tE C f)) (he : ∀ whole, isTrue a X.env whole = (do let v ← whole; standAt a.pos; holding [v] (truthy v)) := by intro _; rfl) : PT X a (tT C (tru f)) := by
  refine PT.imp (pt_truth ha he) fun σ H Q ⟨e, s, o⟩ => ?_
  refine ⟨e, s, (Out.bind o).imp (fun p hp => ?_) fun _ _ z => z⟩
  intro v H1 x1 s1 i1
  cases e0 : truR p.1 with
  | ok b =>
    rw [e0] at hp
    exact ⟨b, by rw [← hK]; exact tru_of i1.t e0, hp H1 x1 s1⟩
  | exc y l => exact absurd e0 (truR_nx _ _ _)
  | bad =>
    rw [e0] at hp
    exact hp.elim
variable {tf tg : MD Bool} {es : List Expr}
def andT (f g : MD Bool) : MD Bool := fun e => (f e).bind fun p => match p.1 with
  | true => g p.2
  | false => .ok (false, p.2)
def orT (f g : MD Bool) : MD Bool := fun e => (f e).bind fun p => match p.1 with
  | true => .ok (true, p.2)
  | false => g p.2
def notT (f : MD Bool) : MD Bool := fun e => (f e).bind fun p => .ok (!p.1, p.2)
theorem OT.ext {σ : L2.St} {H H1 : Hp} {Q : Bool → Hp → Prop} {r : R (Bool × Lc)} (h : OT C σ H Q r) (x : Ext (OW C σ) H H1) : OT C σ H1 Q r := h.imp (fun _ hp H' x' s' => hp H' (x.trans x') s') fun _ _ z => z.ext x
theorem OE.ext {σ : L2.St} {H H1 : Hp} {Q : VK} {r : R (D × Lc)} (h : OE C σ H Q r) (x : Ext (OW C σ) H H1) : OE C σ H1 Q r := h.imp (fun _ hp v H' x' s' i' => hp v H' (x.trans x') s' i') fun _ _ z => z.ext x
theorem OA.ext {σ : L2.St} {H H1 : Hp} {Q : List V → Hp → Prop} {r : R (List D × Lc)} (h : OA C σ H Q r) (x : Ext (OW C σ) H H1) : OA C σ H1 Q r := h.imp (fun _ hp v H' x' s' i' => hp v H' (x.trans x') s' i') fun _ _ z => z.ext x
theorem tT_and (σ : L2.St) (H : Hp) (Q : Bool → Hp → Prop) (h : tT C (andT tf tg) σ H Q) : tAnd (tT C tf) (tT C tg) σ H Q := by
  obtain ⟨e, s, o⟩ := h
  refine ⟨e, s, (Out.bind o).imp (fun p hp => ?_) fun _ _ z => z⟩
  obtain ⟨b, e1⟩ := p
  intro H1 x1 s1
  cases b with
  | true => exact iteT ⟨e1, s1, OT.ext hp x1⟩
  | false => exact iteF (hp H1 x1 s1)
theorem tT_or (σ : L2.St) (H : Hp) (Q : Bool → Hp → Prop) (h : tT C (orT tf tg) σ H Q) : tOr (tT C tf) (tT C tg) σ H Q := by
  obtain ⟨e, s, o⟩ := h
  refine ⟨e, s, (Out.bind o).imp (fun p hp => ?_) fun _ _ z => z⟩
  obtain ⟨b, e1⟩ := p
  intro H1 x1 s1
  cases b with
  | true => exact iteT (hp H1 x1 s1)
  | false => exact iteF ⟨e1, s1, OT.ext hp x1⟩
theorem jw_and1 (ha : PT X a (tT C tf)) : PW X (.BoolOp .And [a] pos) (tT C tf) := pw_and1 ha
theorem jw_or1 (ha : PT X a (tT C tf)) : PW X (.BoolOp .Or [a] pos) (tT C tf) := pw_or1 ha
theorem PW.imp {e : Expr} {t t' : TT} (h : PW X e t) (i : ∀ σ H Q, t' σ H Q → t σ H Q) : PW X e t' := ⟨fun w pins s σ H Q I hw => h.run w pins s σ H Q I (i σ H Q hw)⟩
theorem jw_and (ha : PT X a (tT C tf)) (hb : PW X (.BoolOp .And (b :: es) pos) (tT C tg)) : PW X (.BoolOp .And (a :: b :: es) pos) (tT C (andT tf tg)) := PW.imp (pw_and ha hb) tT_and
theorem jw_or (ha : PT X a (tT C tf)) (hb : PW X (.BoolOp .Or (b :: es) pos) (tT C tg)) : PW X (.BoolOp .Or (a :: b :: es) pos) (tT C (orT tf tg)) := PW.imp (pw_or ha hb) tT_or
theorem jt_not (ha : PT X a (tT C tf)) : PT X (.UnaryOp .Not a pos) (tT C (notT tf)) := by
  refine PT.imp (pt_not ha) fun σ H Q ⟨e, s, o⟩ => ⟨e, s, (Out.bind o).imp (fun p hp H' x' s' => hp H' x' s') fun _ _ z => z⟩
/-- and, or, not as values: the left sides truths -/
def andV (f g : MD D) : MD D := fun e => (f e).bind fun p => match p.1 with
  | .bl true => g p.2
  | .bl false => .ok (.bl false, p.2)
  | _ => .bad
def orV (f g : MD D) : MD D := fun e => (f e).bind fun p => match p.1 with
  | .bl true => .ok (.bl true, p.2)
  | .bl false => g p.2
  | _ => .bad
def notV (f : MD D) : MD D := fun e => (f e).bind fun p => match p.1 with
  | .bl b => .ok (.bl (!b), p.2)
  | _ => .bad
theorem je_one {op : BoolOp} (ha : PE X a (tE C f)) : PE X (.BoolOp op [a] pos) (tE C f) := pe_one ha
theorem je_and (ha : PE X a (tE C f)) (hb : PE X (.BoolOp .And (b :: es) pos) (tE C g)) : PE X (.BoolOp .And (a :: b :: es) pos) (tE C (andV f g)) := by
  refine PE.imp (pe_and ha hb) fun σ H Q ⟨e, s, o⟩ => ⟨e, s, (Out.bind o).imp (fun p hp => ?_) fun _ _ z => z⟩
  obtain ⟨d, e1⟩ := p
  intro v H1 x1 s1 i1
  cases d with
  | bl b =>
    cases i1
    refine ⟨b, rfl, ?_⟩
    cases b with
    | true => exact iteT ⟨e1, s1, OE.ext hp x1⟩
    | false => exact iteF (hp _ H1 x1 s1 rfl)
  | _ => exact hp.elim
theorem je_or (ha : PE X a (tE C f)) (hb : PE X (.BoolOp .Or (b :: es) pos) (tE C g)) : PE X (.BoolOp .Or (a :: b :: es) pos) (tE C (orV f g)) := by
  refine PE.imp (pe_or ha hb) fun σ H Q ⟨e, s, o⟩ => ⟨e, s, (Out.bind o).imp (fun p hp => ?_) fun _ _ z => z⟩
  obtain ⟨d, e1⟩ := p
  intro v H1 x1 s1 i1
  cases d with
  | bl b =>
    cases i1
    refine ⟨b, rfl, ?_⟩
    cases b with
    | true => exact iteT (hp _ H1 x1 s1 rfl)
    | false => exact iteF ⟨e1, s1, OE.ext hp x1⟩
  | _ => exact hp.elim
theorem je_not (ha : PE X a (tE C f)) : PE X (.UnaryOp .Not a pos) (tE C (notV f)) := by
  refine PE.imp (pe_not ha) fun σ H Q ⟨e, s, o⟩ => ⟨e, s, (Out.bind o).imp (fun p hp => ?_) fun _ _ z => z⟩
  obtain ⟨d, e1⟩ := p
  intro v H1 x1 s1 i1
  cases d with
  | bl b =>
    cases i1
    exact ⟨b, rfl, hp _ H1 x1 s1 rfl⟩
  | _ => exact hp.elim
def ifV (t : MD Bool) (f g : MD D) : MD D := fun e => (t e).bind fun p => match p.1 with
  | true => f p.2
  | false => g p.2
theorem je_if (hc : PT X c (tT C tf)) (ha : PE X a (tE C f)) (hb : PE X b (tE C g)) : PE X (.IfExp c a b pos) (tE C (ifV tf f g)) := by
  refine PE.imp (pe_ifExp hc ha hb) fun σ H Q ⟨e, s, o⟩ => ⟨e, s, (Out.bind o).imp (fun p hp => ?_) fun _ _ z => z⟩
  obtain ⟨b, e1⟩ := p
  intro H1 x1 s1
  cases b with
  | true => exact iteT ⟨e1, s1, OE.ext hp x1⟩
  | false => exact iteF ⟨e1, s1, OE.ext hp x1⟩

/-! ### argument lists, displays -/
def nilA : MD (List D) := fun e => .ok ([], e)
def consA (f : MD D) (g : MD (List D)) : MD (List D) := fun e => (f e).bind fun p => (g p.2).bind fun q => .ok (p.1 :: q.1, q.2)
variable {fa : MD (List D)}
theorem ja_nil : PA X [] (tA C nilA) := PA.imp pa_nil fun σ H Q ⟨e, s, o⟩ => o [] H (Ext.refl _ _) s .nil
theorem ja_cons (ha : PE X a (tE C f)) (hr : PA X es (tA C fa)) (hs : starEach (a :: es) X.env = (false, eval a X.env) :: starEach es X.env := by rfl) : PA X (a :: es) (tA C (consA f fa)) := by
  refine PA.imp (pa_cons ha hr hs) fun σ H Q ⟨e, s, o⟩ => ⟨e, s, (Out.bind o).imp (fun p hp => ?_) fun _ _ z => z⟩
  intro v H1 x1 s1 i1
  refine ⟨p.2, s1, (Out.bind hp).imp (fun q hq => ?_) fun _ _ z => z.ext x1⟩
  intro vs H2 x2 s2 i2
  exact hq (v :: vs) H2 (x1.trans x2) s2 (.cons ((Stp.of x2).isD i1) i2)
def szR (ds : List D) (d : D) : R D := if ds.length ≤ sizeLine then .ok d else .bad
def tupE (g : MD (List D)) : MD D := fun e => (g e).bind fun q => (szR q.1 (.tup q.1)).at q.2
def lstE (g : MD (List D)) : MD D := fun e => (g e).bind fun q => (szR q.1 (.lst q.1)).at q.2
theorem SR.fresh {e : Lc} {σ : L2.St} {H : Hp} (s : SR C e σ H) {p : Addr} (hp : H p = none) : ¬ MO C σ p := fun z => by
  obtain ⟨o, h⟩ := s.mod z
  rw [hp] at h
  cases h
theorem IsD.newT {σ : L2.St} {H : Hp} {p : Addr} {ds : List D} {vs : List V} (hp : H p = none) (i : IsDs C.k H (MO C σ) ds vs) : IsD C.k (upd H p (.tup vs)) (MO C σ) (.tup ds) (.ref p) :=
  ⟨p, vs, rfl, .inl (.inl upd_same), (Stp.of (Ext.upd hp)).isDs i⟩
theorem IsD.newL {e : Lc} {σ : L2.St} {H : Hp} {p : Addr} {ds : List D} {vs : List V} (s : SR C e σ H) (hp : H p = none) (i : IsDs C.k H (MO C σ) ds vs) : IsD C.k (upd H p (.lst vs)) (MO C σ) (.lst ds) (.ref p) :=
  ⟨p, vs, rfl, upd_same, s.fresh hp, (Stp.of (Ext.upd hp)).isDs i⟩
theorem je_tup {x1 : Nat} (h : PA X es (tA C fa)) : PE X (.Tuple es x1 pos) (tE C (tupE fa)) := by
  refine PE.imp (pe_tup h) fun σ H Q ⟨e, s, o⟩ => ⟨e, s, (Out.bind o).imp (fun p hp => ?_) fun _ _ z => z⟩
  intro vs H1 x1 s1 i1
  unfold szR at hp
  by_cases hz : p.1.length ≤ sizeLine
  · rw [if_pos hz] at hp
    exact ⟨by rw [i1.length]; exact hz, fun q hq => hp _ _ (x1.trans (Ext.upd hq)) (s1.grow hq) (IsD.newT hq i1)⟩
  · rw [if_neg hz] at hp
    exact hp.elim
theorem je_lst (h : PA X es (tA C fa)) : PE X (.List es pos) (tE C (lstE fa)) := by
  refine PE.imp (pe_lst h) fun σ H Q ⟨e, s, o⟩ => ⟨e, s, (Out.bind o).imp (fun p hp => ?_) fun _ _ z => z⟩
  intro vs H1 x1 s1 i1
  unfold szR at hp
  by_cases hz : p.1.length ≤ sizeLine
  · rw [if_pos hz] at hp
    exact ⟨by rw [i1.length]; exact hz, fun q hq => hp _ _ (x1.trans (Ext.upd hq)) (s1.grow hq) (IsD.newL s1 hq i1)⟩
  · rw [if_neg hz] at hp
    exact hp.elim
end
end Dn

namespace Dn
open PySem PySem.Spec PyProof.Rows L2

/-! ### arithmetic, joining -/
def addD : D → D → R D
  | .int i, .int j => .ok (.int (i + j))
  | .str x, .str y => if x.length + y.length ≤ sizeLine then .ok (.str (x ++ y)) else .bad
  | .tup xs, .tup ys => if xs.length + ys.length ≤ sizeLine then .ok (.tup (xs ++ ys)) else .bad
  | .lst xs, .lst ys => if xs.length + ys.length ≤ sizeLine then .ok (.lst (xs ++ ys)) else .bad
  | _, _ => .bad
def subD : D → D → R D
  | .int i, .int j => .ok (.int (i - j))
  | _, _ => .bad
def mulD : D → D → R D
  | .int i, .int j => if i.natAbs.log2 + j.natAbs.log2 < 1000000 then .ok (.int (i * j)) else .bad
  | .lst xs, .int k => if -(2 ^ 63) ≤ k ∧ k < 2 ^ 63 ∧ xs.length * k.toNat ≤ sizeLine then .ok (.lst (List.replicate k.toNat xs).flatten) else .bad
  | .tup xs, .int k => if xs ≠ [] ∧ 2 ≤ k ∧ k ≤ 1000 ∧ xs.length ≤ 1000 then .ok (.tup (List.replicate k.toNat xs).flatten) else .bad
  | _, _ => .bad
def fdivD : D → D → R D
  | .int i, .int j => if (0 < j ∧ j.natAbs.log2 < 9000) ∨ (j ≠ 0 ∧ j.natAbs < 1073741824) then .ok (.int (i.fdiv j)) else .bad
  | _, _ => .bad
def modD : D → D → R D
  | .int i, .int j => if j ≠ 0 then .ok (.int (i.fmod j)) else .bad
  | _, _ => .bad
def powD : D → D → R D
  | .int i, .int j => if 0 ≤ j ∧ j ≤ 1000000 ∧ i.natAbs < 2 ^ 64 then .ok (.int (i ^ j.toNat)) else .bad
  | _, _ => .bad
section
variable {X : Cx} {C : Ct}
theorem addD_nx (a b : D) (y : Ex) (l : Lc) : addD a b ≠ .exc y l := by
  unfold addD
  split <;> (try split) <;> simp
theorem subD_nx (a b : D) (y : Ex) (l : Lc) : subD a b ≠ .exc y l := by
  unfold subD
  split <;> simp
theorem mulD_nx (a b : D) (y : Ex) (l : Lc) : mulD a b ≠ .exc y l := by
  unfold mulD
  split <;> (repeat' split) <;> simp
theorem fdivD_nx (a b : D) (y : Ex) (l : Lc) : fdivD a b ≠ .exc y l := by
  unfold fdivD
  split <;> (try split) <;> simp
theorem modD_nx (a b : D) (y : Ex) (l : Lc) : modD a b ≠ .exc y l := by
  unfold modD
  split <;> (try split) <;> simp
theorem powD_nx (a b : D) (y : Ex) (l : Lc) : powD a b ≠ .exc y l := by
  unfold powD
  split <;> (try split) <;> simp
abbrev rAddS : R2 := fun x y H Q => ∃ i j, x = .str i ∧ y = .str j ∧ i.length + j.length ≤ sizeLine ∧ Q (.str (i ++ j)) H
/-- a + b of lists that may be frozen -/
def rCatF : R2 := fun x y H Q => ∃ l b xs zs, x = .ref l ∧ y = .ref b ∧ Rd H l (.lst xs) ∧ Rd H b (.lst zs) ∧ xs.length + zs.length ≤ sizeLine ∧ ∀ p, H p = none → Q (.ref p) (upd H p (.lst (xs ++ zs)))
abbrev rAddX (K : PySem.W.Frag) : R2 := fun x y H Q => ((rI0 fun i j => .int (i + j)) x y H Q ∨ rAddS x y H Q) ∨ (rCatA K x y H Q ∨ rCat x y H Q)
theorem op_addX : OpR X (binaryOp .Add) (rAddX X.K) := (op_add.or op_add_str).or (op_catA.or op_cat)
theorem same_upd' {H : Hp} {p : Addr} {o : HO} (h : H p = none) : Same H (upd H p o) := fun b x e => by
  rw [upd_ne (ne_of_none e h)]
  exact e
theorem PNew.tup {σ : L2.St} {e : Lc} {H : Hp} {Q : VK} {ds : List D} {vs : List V} {p : Addr} (q : PNew C σ H Q (.ok (.tup ds))) (hp : H p = none) (i : IsDs C.k H (MO C σ) ds vs) : Q (.ref p) (upd H p (.tup vs)) := q _ _ (same_upd' hp) (IsD.newT hp i)
theorem PNew.lst {σ : L2.St} {e : Lc} {H : Hp} {Q : VK} {ds : List D} {vs : List V} {p : Addr} (q : PNew C σ H Q (.ok (.lst ds))) (s : SR C e σ H) (hp : H p = none) (i : IsDs C.k H (MO C σ) ds vs) : Q (.ref p) (upd H p (.lst vs)) := q _ _ (same_upd' hp) (IsD.newL s hp i)
theorem PNew.val {σ : L2.St} {H : Hp} {Q : VK} {d : D} {v : V} (q : PNew C σ H Q (.ok d)) (i : IsD C.k H (MO C σ) d v) : Q v H := q v H (Same.refl _) i
theorem opd_add : OpD C (rAddX C.k.K) addD := by
  intro σ e H x y d1 d2 Q s i1 i2 q
  unfold addD at q
  split at q
  · cases i1
    cases i2
    exact .inl (.inl ⟨_, _, rfl, rfl, q.val rfl⟩)
  · cases i1
    cases i2
    split at q
    · rename_i hz
      exact .inl (.inr ⟨_, _, rfl, rfl, hz, q.val rfl⟩)
    · exact q.elim
  · split at q
    · rename_i xs ys hz
      obtain ⟨a, vs, rfl, h1, h2⟩ := i1
      obtain ⟨b, ws, rfl, h3, h4⟩ := i2
      refine .inr (.inl ⟨a, b, vs, ws, rfl, rfl, h1, h3, by rw [h2.length, h4.length]; exact hz, fun e1 => ?_, fun _ e1 => ?_, fun _ _ p hp => q.tup (e := e) hp (h2.app h4)⟩)
      · subst e1
        have : xs = [] := List.length_eq_zero_iff.mp (by rw [← h2.length]; rfl)
        subst this
        exact q.val ⟨b, ws, rfl, h3, by simpa using h4⟩
      · subst e1
        have : ys = [] := List.length_eq_zero_iff.mp (by rw [← h4.length]; rfl)
        subst this
        exact q.val ⟨a, vs, rfl, h1, by simpa using h2⟩
    · exact q.elim
  · split at q
    · rename_i xs ys hz
      obtain ⟨a, vs, rfl, h1, h2⟩ := i1
      obtain ⟨b, ws, rfl, h3, h4⟩ := i2
      exact .inr (.inr ⟨a, b, vs, ws, rfl, rfl, h1, h3, by rw [h2.length, h4.length]; exact hz, fun p hp => q.lst s hp (h2.app h4)⟩)
    · exact q.elim
  · exact q.elim
theorem opd_sub : OpD C (rI0 fun i j => .int (i - j)) subD := by
  intro σ e H x y d1 d2 Q s i1 i2 q
  unfold subD at q
  split at q
  · cases i1
    cases i2
    exact ⟨_, _, rfl, rfl, q.val rfl⟩
  · exact q.elim
abbrev rMulX (K : PySem.W.Frag) : R2 := fun x y H Q => (rI CMulW (fun i j => .int (i * j)) x y H Q ∨ rRep x y H Q) ∨ (rRepT K x y H Q)
theorem op_mulX : OpR X (binaryOp .Mult) (rMulX X.K) := (op_mulW.or op_rep).or op_repT
theorem IsDs.rep {k : Kx} {H : Hp} {M : Addr → Prop} {ds : List D} {vs : List V} (h : IsDs k H M ds vs) : ∀ n : Nat, IsDs k H M (List.replicate n ds).flatten (List.replicate n vs).flatten
  | 0 => rfl
  | n + 1 => by
    rw [List.replicate_succ, List.replicate_succ, List.flatten_cons, List.flatten_cons]
    exact h.app (IsDs.rep h n)
theorem opd_mul : OpD C (rMulX C.k.K) mulD := by
  intro σ e H x y d1 d2 Q s i1 i2 q
  unfold mulD at q
  split at q
  · split at q
    · rename_i hz
      cases i1
      cases i2
      exact .inl (.inl ⟨_, _, rfl, rfl, hz, q.val rfl⟩)
    · exact q.elim
  · split at q
    · rename_i hz
      obtain ⟨a, vs, rfl, h1, h2⟩ := i1
      cases i2
      exact .inl (.inr ⟨a, _, vs, rfl, rfl, h1, hz.1, hz.2.1, by rw [h2.length]; exact hz.2.2, fun p hp => q.lst s hp (h2.rep _)⟩)
    · exact q.elim
  · split at q
    · rename_i xs k hz
      obtain ⟨a, vs, rfl, h1, h2⟩ := i1
      cases i2
      refine .inr ⟨a, _, vs, rfl, rfl, h1, fun z => ?_, hz.2.1, hz.2.2.1, by rw [h2.length]; exact hz.2.2.2, fun p hp => q.tup (e := e) hp (h2.rep _)⟩
      subst z
      exact hz.1 (List.length_eq_zero_iff.mp (by rw [← h2.length]; rfl))
    · exact q.elim
  · exact q.elim
abbrev rDivX : R2 := fun x y H Q => rI CDivW (fun i j => .int (i / j)) x y H Q ∨ rI CDivN (fun i j => .int (i.fdiv j)) x y H Q
theorem op_divX : OpR X (binaryOp .FloorDiv) rDivX := op_fdivW.or op_fdivN
theorem opd_fdiv : OpD C rDivX fdivD := by
  intro σ e H x y d1 d2 Q s i1 i2 q
  unfold fdivD at q
  split at q
  · split at q
    · rename_i i j hz
      cases i1
      cases i2
      rcases hz with hz | hz
      · refine .inl ⟨_, _, rfl, rfl, hz, ?_⟩
        have e1 : i / j = i.fdiv j := (Int.fdiv_eq_ediv_of_nonneg i (by omega)).symm
        show Q (V.int (i / j)) H
        rw [e1]
        exact q.val rfl
      · exact .inr ⟨_, _, rfl, rfl, hz, q.val rfl⟩
    · exact q.elim
  · exact q.elim
theorem opd_mod : OpD C (rI (fun _ j => j ≠ 0) fun i j => .int (i.fmod j)) modD := by
  intro σ e H x y d1 d2 Q s i1 i2 q
  unfold modD at q
  split at q
  · split at q
    · rename_i hz
      cases i1
      cases i2
      exact ⟨_, _, rfl, rfl, hz, q.val rfl⟩
    · exact q.elim
  · exact q.elim
theorem opd_pow : OpD C (rI CPow fun i j => .int (i ^ j.toNat)) powD := by
  intro σ e H x y d1 d2 Q s i1 i2 q
  unfold powD at q
  split at q
  · split at q
    · rename_i hz
      cases i1
      cases i2
      exact ⟨_, _, rfl, rfl, hz, q.val rfl⟩
    · exact q.elim
  · exact q.elim
end
end Dn

namespace Dn
open PySem PySem.Spec PyProof.Rows L2

/-! ### equality -/
mutual
def D.py : D → Option PyData
  | .non => some .none
  | .bl b => some (.bool b)
  | .int i => some (.int i)
  | .str x => some (.str x)
  | .tup ds => match pys ds with
    | some xs => some (.tuple xs)
    | none => none
  | .lst ds => match pys ds with
    | some xs => some (.list xs)
    | none => none
  | .dct _ _ => none
  | .fn _ => none
  | .scr _ => none
def pys : List D → Option (List PyData)
  | [] => some []
  | d :: ds => match D.py d, pys ds with
    | some x, some xs => some (x :: xs)
    | _, _ => none
end
mutual
theorem D.dp {k : Kx} {H : Hp} {M : Addr → Prop} : ∀ (d : D) (v : V) (x : PyData), IsD k H M d v → D.py d = some x → Dp k.K H v x
  | .non, v, x, i, e => by cases i; cases e; exact .non
  | .bl b, v, x, i, e => by cases i; cases e; exact .bl b
  | .int b, v, x, i, e => by cases i; cases e; exact .int b
  | .str b, v, x, i, e => by cases i; cases e; exact .str b
  | .tup ds, v, x, ⟨a, vs, e1, h1, h2⟩, e => by
    unfold D.py at e
    split at e
    · rename_i xs e2
      cases e
      subst e1
      exact .tup h1 (pys_dp ds vs xs h2 e2)
    · cases e
  | .lst ds, v, x, ⟨a, vs, e1, h1, _, h2⟩, e => by
    unfold D.py at e
    split at e
    · rename_i xs e2
      cases e
      subst e1
      exact .lst (.inl (.inl h1)) (pys_dp ds vs xs h2 e2)
    · cases e
  | .dct _ _, v, x, i, e => by cases e
  | .fn _, v, x, i, e => by cases e
  | .scr _, v, x, i, e => by cases e
theorem pys_dp {k : Kx} {H : Hp} {M : Addr → Prop} : ∀ (ds : List D) (vs : List V) (xs : List PyData), IsDs k H M ds vs → pys ds = some xs → DpAll k.K H vs xs
  | [], vs, xs, i, e => by
    rw [show vs = [] from i]
    cases e
    exact .nil
  | d :: ds, vs, xs, ⟨v, r, e1, h1, h2⟩, e => by
    unfold pys at e
    split at e
    · rename_i x xs' e2 e3
      cases e
      subst e1
      exact .cons (D.dp d v x h1 e2) (pys_dp ds r xs' h2 e3)
    · cases e
end
theorem D.dpT {k : Kx} {H : Hp} {M : Addr → Prop} (d : D) (v : V) (x : PyData) (i : IsT k H M d v) (e : D.py d = some x) : Dp k.K H v x := by
  cases d with
  | lst ds =>
    obtain ⟨a, vs, e1, h1, h2⟩ := i
    unfold D.py at e
    split at e
    · rename_i xs e2
      cases e
      subst e1
      exact .lst (.inl (.inl h1)) (pys_dp ds vs xs h2 e2)
    · cases e
  | dct ks ds => cases e
  | _ => exact D.dp _ _ _ i e
def scalD : D → D → Option Bool
  | .int i, .int j => some (i == j)
  | .str i, .str j => some (i == j)
  | .bl i, .bl j => some (i == j)
  | .non, .non => some true
  | .int _, .non => some false
  | .non, .int _ => some false
  | _, _ => none
def eqD (a b : D) : R D := match scalD a b with
  | some r => .ok (.bl r)
  | none => match D.py a, D.py b with
    | some p, some q => if SeqAt.shaped p && SeqAt.shaped q then .ok (.bl (PyData.eqv p q)) else .bad
    | _, _ => .bad
def neD (a b : D) : R D := match scalD a b with
  | some r => .ok (.bl (!r))
  | none => match D.py a, D.py b with
    | some p, some q => if SeqAt.shaped p && SeqAt.shaped q then .ok (.bl (!PyData.eqv p q)) else .bad
    | _, _ => .bad
def isN (a b : D) : R D := match b with
  | .non => match a with
    | .non => .ok (.bl true)
    | _ => .ok (.bl false)
  | _ => .bad
def isNN (a b : D) : R D := match b with
  | .non => match a with
    | .non => .ok (.bl false)
    | _ => .ok (.bl true)
  | _ => .bad
def ltD : D → D → R D
  | .int i, .int j => .ok (.bl (decide (i < j)))
  | _, _ => .bad
def leD : D → D → R D
  | .int i, .int j => .ok (.bl (decide (i ≤ j)))
  | _, _ => .bad
def gtD : D → D → R D
  | .int i, .int j => .ok (.bl (decide (j < i)))
  | _, _ => .bad
def geD : D → D → R D
  | .int i, .int j => .ok (.bl (decide (j ≤ i)))
  | _, _ => .bad
/-- the ints of a row of data -/
def intsD : List D → Option (List Int)
  | [] => some []
  | .int i :: r => match intsD r with
    | some xs => some (i :: xs)
    | none => none
  | _ :: _ => none
/-- tuples of ints -/
def ltT : D → D → R D
  | .tup xs, .tup ys => match intsD xs, intsD ys with
    | some ns, some ms => .ok (.bl (HT.lexLt ns ms))
    | _, _ => .bad
  | _, _ => .bad
def memD (neg : Bool) (a c : D) : R D := match D.py a, c with
  | some p, .lst ds => match pys ds with
    | some xs => if SeqAt.shaped p && SeqAt.shaped (.list xs) then .ok (.bl (neg ^^ xs.any fun z => PyData.eqv z p)) else .bad
    | none => .bad
  | some p, .tup ds => match pys ds with
    | some xs => if SeqAt.shaped p && SeqAt.shaped (.tuple xs) then .ok (.bl (neg ^^ xs.any fun z => PyData.eqv z p)) else .bad
    | none => .bad
  | _, _ => .bad
section
variable {X : Cx} {C : Ct}
theorem eqD_nx (a b : D) (y : Ex) (l : Lc) : eqD a b ≠ .exc y l := by
  unfold eqD
  split <;> (repeat' split) <;> simp
theorem neD_nx (a b : D) (y : Ex) (l : Lc) : neD a b ≠ .exc y l := by
  unfold neD
  split <;> (repeat' split) <;> simp
theorem isN_nx (a b : D) (y : Ex) (l : Lc) : isN a b ≠ .exc y l := by
  unfold isN
  split <;> (repeat' split) <;> simp
theorem isNN_nx (a b : D) (y : Ex) (l : Lc) : isNN a b ≠ .exc y l := by
  unfold isNN
  split <;> (repeat' split) <;> simp
theorem ltD_nx (a b : D) (y : Ex) (l : Lc) : ltD a b ≠ .exc y l := by
  unfold ltD
  split <;> simp
theorem leD_nx (a b : D) (y : Ex) (l : Lc) : leD a b ≠ .exc y l := by
  unfold leD
  split <;> simp
theorem gtD_nx (a b : D) (y : Ex) (l : Lc) : gtD a b ≠ .exc y l := by
  unfold gtD
  split <;> simp
theorem geD_nx (a b : D) (y : Ex) (l : Lc) : geD a b ≠ .exc y l := by
  unfold geD
  split <;> simp
theorem ltT_nx (a b : D) (y : Ex) (l : Lc) : ltT a b ≠ .exc y l := by
  unfold ltT
  split <;> (repeat' split) <;> simp
theorem memD_nx (n : Bool) (a b : D) (y : Ex) (l : Lc) : memD n a b ≠ .exc y l := by
  unfold memD
  split <;> (repeat' split) <;> simp
abbrev rEqX (K : PySem.W.Frag) : R2 := fun x y H Q => rEq x y H Q ∨ rEqD K x y H Q
abbrev rNeX (K : PySem.W.Frag) : R2 := fun x y H Q => rNe x y H Q ∨ rNeD K x y H Q
theorem op_eqX (hu : X.A.units + 64 < cLine) : OpR X (compareOp .Eq) (rEqX X.K) := op_eq.or (op_eqD hu)
theorem op_neX (hu : X.A.units + 64 < cLine) : OpR X (compareOp .NotEq) (rNeX X.K) := op_ne.or (op_neD hu)
theorem scal_of {k : Kx} {H : Hp} {M : Addr → Prop} {a b : D} {x y : V} {r : Bool} (i1 : IsT k H M a x) (i2 : IsT k H M b y) (h : scalD a b = some r) : scal x y = true ∧ decide (x = y) = r := by
  unfold scalD at h
  split at h <;> (try cases h) <;> cases i1 <;> cases i2
  · exact ⟨rfl, dec_int⟩
  · exact ⟨rfl, dec_str⟩
  · exact ⟨rfl, dec_bl⟩
  · exact ⟨rfl, by simp⟩
  · exact ⟨rfl, by simp⟩
  · exact ⟨rfl, by simp⟩
theorem opd_eq : OpD C (rEqX C.k.K) eqD := by
  intro σ e H x y d1 d2 Q s i1 i2 q
  unfold eqD at q
  split at q
  · rename_i r hr
    obtain ⟨h1, h2⟩ := scal_of i1 i2 hr
    refine .inl ⟨h1, ?_⟩
    rw [h2]
    exact q.val rfl
  · split at q
    · rename_i p1 p2 e1 e2
      split at q
      · rename_i hz
        rw [Bool.and_eq_true] at hz
        exact .inr ⟨_, _, D.dpT _ _ _ i1 e1, D.dpT _ _ _ i2 e2, hz.1, hz.2, q.val rfl⟩
      · exact q.elim
    · exact q.elim
theorem opd_ne : OpD C (rNeX C.k.K) neD := by
  intro σ e H x y d1 d2 Q s i1 i2 q
  unfold neD at q
  split at q
  · rename_i r hr
    obtain ⟨h1, h2⟩ := scal_of i1 i2 hr
    refine .inl ⟨h1, ?_⟩
    rw [h2]
    exact q.val rfl
  · split at q
    · rename_i p1 p2 e1 e2
      split at q
      · rename_i hz
        rw [Bool.and_eq_true] at hz
        exact .inr ⟨_, _, D.dpT _ _ _ i1 e1, D.dpT _ _ _ i2 e2, hz.1, hz.2, q.val rfl⟩
      · exact q.elim
    · exact q.elim
theorem IsD.non_iff {k : Kx} {H : Hp} {M : Addr → Prop} {d : D} {v : V} (i : IsT k H M d v) : (v = .non) = (d = .non) := by
  refine propext ⟨fun e => ?_, fun e => by subst e; exact i⟩
  subst e
  cases d with
  | non => rfl
  | bl b => cases i
  | int b => cases i
  | str b => cases i
  | tup ds => obtain ⟨_, _, e, _⟩ := i; cases e
  | lst ds => obtain ⟨_, _, e, _⟩ := i; cases e
  | dct ks ds => obtain ⟨_, _, e, _⟩ := i; cases e
  | fn j => obtain ⟨_, e, _⟩ := i; cases e
  | scr j => obtain ⟨_, e, _⟩ := i; cases e
theorem opd_isN : OpD C (fun x y H Q => y = .non ∧ Q (.bl (decide (x = .non))) H) isN := by
  intro σ e H x y d1 d2 Q s i1 i2 q
  unfold isN at q
  split at q
  · cases i2
    refine ⟨rfl, ?_⟩
    have h := IsD.non_iff i1
    split at q
    · cases i1
      exact q.val rfl
    · rename_i hn
      have e1 : decide (x = .non) = false := decide_eq_false (by rw [h]; exact fun z => hn z)
      rw [e1]
      exact q.val rfl
  · exact q.elim
theorem opd_isNN : OpD C (fun x y H Q => y = .non ∧ Q (.bl (!decide (x = .non))) H) isNN := by
  intro σ e H x y d1 d2 Q s i1 i2 q
  unfold isNN at q
  split at q
  · cases i2
    refine ⟨rfl, ?_⟩
    have h := IsD.non_iff i1
    split at q
    · cases i1
      exact q.val rfl
    · rename_i hn
      have e1 : decide (x = .non) = false := decide_eq_false (by rw [h]; exact fun z => hn z)
      rw [e1]
      exact q.val rfl
  · exact q.elim
theorem opd_lt : OpD C (rI0 fun i j => .bl (decide (i < j))) ltD := by
  intro σ e H x y d1 d2 Q s i1 i2 q
  unfold ltD at q
  split at q
  · cases i1
    cases i2
    exact ⟨_, _, rfl, rfl, q.val rfl⟩
  · exact q.elim
theorem opd_le : OpD C (rI0 fun i j => .bl (decide (i ≤ j))) leD := by
  intro σ e H x y d1 d2 Q s i1 i2 q
  unfold leD at q
  split at q
  · cases i1
    cases i2
    exact ⟨_, _, rfl, rfl, q.val rfl⟩
  · exact q.elim
theorem opd_gt : OpD C (rI0 fun i j => .bl (decide (j < i))) gtD := by
  intro σ e H x y d1 d2 Q s i1 i2 q
  unfold gtD at q
  split at q
  · cases i1
    cases i2
    exact ⟨_, _, rfl, rfl, q.val rfl⟩
  · exact q.elim
theorem opd_ge : OpD C (rI0 fun i j => .bl (decide (j ≤ i))) geD := by
  intro σ e H x y d1 d2 Q s i1 i2 q
  unfold geD at q
  split at q
  · cases i1
    cases i2
    exact ⟨_, _, rfl, rfl, q.val rfl⟩
  · exact q.elim
theorem ints_of {k : Kx} {H : Hp} {M : Addr → Prop} : ∀ {ds : List D} {vs : List V} {ns : List Int}, IsDs k H M ds vs → intsD ds = some ns → vs = ns.map V.int
  | [], vs, ns, i, e => by
    cases e
    exact i
  | .int j :: r, vs, ns, ⟨v, vr, e1, h1, h2⟩, e => by
    unfold intsD at e
    split at e
    · rename_i xs e2
      cases e
      cases h1
      rw [e1, ints_of h2 e2]
      rfl
    · cases e
  | .non :: r, vs, ns, _, e => by cases e
  | .bl _ :: r, vs, ns, _, e => by cases e
  | .str _ :: r, vs, ns, _, e => by cases e
  | .tup _ :: r, vs, ns, _, e => by cases e
  | .lst _ :: r, vs, ns, _, e => by cases e
  | .dct _ _ :: r, vs, ns, _, e => by cases e
  | .fn _ :: r, vs, ns, _, e => by cases e
  | .scr _ :: r, vs, ns, _, e => by cases e
theorem opd_ltT : OpD C (rLtT C.k.K) ltT := by
  intro σ e H x y d1 d2 Q s i1 i2 q
  unfold ltT at q
  split at q
  · split at q
    · rename_i ns ms e1 e2
      obtain ⟨a, vs, rfl, h1, h2⟩ := i1
      obtain ⟨b, ws, rfl, h3, h4⟩ := i2
      rw [ints_of h2 e1] at h1
      rw [ints_of h4 e2] at h3
      exact ⟨a, b, ns, ms, rfl, rfl, h1, h3, q.val rfl⟩
    · exact q.elim
  · exact q.elim
def rInDT (K : PySem.W.Frag) : R2 := fun x y H Q => ∃ d ds, Dp K H x d ∧ Dp K H y (.tuple ds) ∧ SeqAt.shaped d = true ∧ SeqAt.shaped (.tuple ds) = true ∧ Q (.bl (ds.any fun z => PyData.eqv z d)) H
def rNotInDT (K : PySem.W.Frag) : R2 := fun x y H Q => ∃ d ds, Dp K H x d ∧ Dp K H y (.tuple ds) ∧ SeqAt.shaped d = true ∧ SeqAt.shaped (.tuple ds) = true ∧ Q (.bl (!ds.any fun z => PyData.eqv z d)) H
theorem op_inDT (hu : X.A.units + 65 < cLine) : OpR X (compareOp .In) (rInDT X.K) := by
  intro pins s σ H x y v u Q I rx ry h
  obtain ⟨d, ds, hd, he, sd, se, q⟩ := h
  obtain ⟨as, r1⟩ := Dp.reads I d x v hd rx
  obtain ⟨bs, r2⟩ := Dp.reads I (.tuple ds) y u he ry
  exact SeqAt.in_tuple_reads r2 r1 (SeqAt.canLay_of_shaped se) (SeqAt.canLay_of_shaped sd) (room_in_shaped sd hu) ⟨.bl _, H, I, rfl, q⟩
theorem op_notInDT (hu : X.A.units + 65 < cLine) : OpR X (compareOp .NotIn) (rNotInDT X.K) := by
  intro pins s σ H x y v u Q I rx ry h
  obtain ⟨d, ds, hd, he, sd, se, q⟩ := h
  obtain ⟨as, r1⟩ := Dp.reads I d x v hd rx
  obtain ⟨bs, r2⟩ := Dp.reads I (.tuple ds) y u he ry
  exact SeqAt.notIn_tuple_reads r2 r1 (SeqAt.canLay_of_shaped se) (SeqAt.canLay_of_shaped sd) (room_in_shaped sd hu) ⟨.bl _, H, I, rfl, q⟩
abbrev rInX (K : PySem.W.Frag) : R2 := fun x y H Q => rInD K x y H Q ∨ rInDT K x y H Q
abbrev rNotInX (K : PySem.W.Frag) : R2 := fun x y H Q => rNotInD K x y H Q ∨ rNotInDT K x y H Q
theorem op_inX (hu : X.A.units + 65 < cLine) : OpR X (compareOp .In) (rInX X.K) := (op_inD hu).or (op_inDT hu)
theorem op_notInX (hu : X.A.units + 65 < cLine) : OpR X (compareOp .NotIn) (rNotInX X.K) := (op_notInD hu).or (op_notInDT hu)
theorem opd_in : OpD C (rInX C.k.K) (memD false) := by
  intro σ e H x y d1 d2 Q s i1 i2 q
  unfold memD at q
  split at q
  · rename_i p ds e1
    split at q
    · rename_i xs e2
      split at q
      · rename_i hz
        rw [Bool.and_eq_true] at hz
        rw [Bool.false_xor] at q
        exact .inl ⟨p, xs, D.dpT _ _ _ i1 e1, D.dpT (.lst ds) _ _ i2 (by rw [D.py, e2]), hz.1, hz.2, q.val rfl⟩
      · exact q.elim
    · exact q.elim
  · rename_i p ds e1
    split at q
    · rename_i xs e2
      split at q
      · rename_i hz
        rw [Bool.and_eq_true] at hz
        rw [Bool.false_xor] at q
        exact .inr ⟨p, xs, D.dpT _ _ _ i1 e1, D.dpT (.tup ds) _ _ i2 (by rw [D.py, e2]), hz.1, hz.2, q.val rfl⟩
      · exact q.elim
    · exact q.elim
  · exact q.elim
theorem opd_notIn : OpD C (rNotInX C.k.K) (memD true) := by
  intro σ e H x y d1 d2 Q s i1 i2 q
  unfold memD at q
  split at q
  · rename_i p ds e1
    split at q
    · rename_i xs e2
      split at q
      · rename_i hz
        rw [Bool.and_eq_true] at hz
        rw [Bool.true_xor] at q
        exact .inl ⟨p, xs, D.dpT _ _ _ i1 e1, D.dpT (.lst ds) _ _ i2 (by rw [D.py, e2]), hz.1, hz.2, q.val rfl⟩
      · exact q.elim
    · exact q.elim
  · rename_i p ds e1
    split at q
    · rename_i xs e2
      split at q
      · rename_i hz
        rw [Bool.and_eq_true] at hz
        rw [Bool.true_xor] at q
        exact .inr ⟨p, xs, D.dpT _ _ _ i1 e1, D.dpT (.tup ds) _ _ i2 (by rw [D.py, e2]), hz.1, hz.2, q.val rfl⟩
      · exact q.elim
    · exact q.elim
  · exact q.elim
end
end Dn

namespace Dn
open PySem PySem.Spec PyProof.Rows L2

/-! ### places, slices -/
def idxD : D → D → R D
  | .lst ds, .int i => match atI ds i with
    | some d => .ok d
    | none => .bad
  | .tup ds, .int i => match atI ds i with
    | some d => .ok d
    | none => .bad
  | .scr ns, .int i => match atI ns i with
    | some n => .ok (.int n)
    | none => .bad
  | .str z, .int i => if z.length ≤ sizeLine then match atI z.cps.toList i with
      | some c => .ok (.str ⟨#[c]⟩)
      | none => .bad
    else .bad
  | _, _ => .bad
def cutG {α : Type} (xs : List α) (lo hi : Option Int) : List α := (xs.drop (HT.sIx xs.length 0 lo)).take (HT.sIx xs.length xs.length hi - HT.sIx xs.length 0 lo)
def sliR (lo hi : Option Int) : D → R D
  | .lst ds => .ok (.lst (cutG ds lo hi))
  | .tup ds => .ok (.tup (cutG ds lo hi))
  | .scr ns => .ok (.lst ((cutG ns lo hi).map .int))
  | .str z => if z.length ≤ sizeLine then .ok (.str (cutS z lo hi)) else .bad
  | _ => .bad
/-- an optional part of a slice -/
def noP : MD (Option Int) := fun e => .ok (none, e)
def soP (f : MD D) : MD (Option Int) := fun e => (f e).bind fun p => match p.1 with
  | .int i => .ok (some i, p.2)
  | _ => .bad
def sliE (f : MD D) (lo hi : MD (Option Int)) : MD D := fun e => (f e).bind fun p => (lo p.2).bind fun l => (hi l.2).bind fun u => (sliR l.1 u.1 p.1).at u.2
section
variable {X : Cx} {C : Ct}
theorem idxD_nx (a b : D) (y : Ex) (l : Lc) : idxD a b ≠ .exc y l := by
  unfold idxD
  split <;> (repeat' split) <;> simp
theorem IsDs.atI {k : Kx} {H : Hp} {M : Addr → Prop} {ds : List D} {vs : List V} {i : Int} {d : D} (h : IsDs k H M ds vs) (e : atI ds i = some d) : ∃ v, L2.atI vs i = some v ∧ IsD k H M d v := by
  unfold L2.atI at e ⊢
  rw [h.length]
  cases e1 : ixN ds.length i with
  | none =>
    rw [e1] at e
    cases e
  | some j =>
    rw [e1] at e
    exact h.get (i := j) e
theorem atI_map {α β : Type} (g : α → β) (xs : List α) (i : Int) : atI (xs.map g) i = (atI xs i).map g := by
  unfold atI
  rw [List.length_map]
  cases ixN xs.length i with
  | none => rfl
  | some j =>
    show (xs.map g)[j]? = (xs[j]?).map g
    rw [List.getElem?_map]
theorem opd_idx : OpD C (rIx C.k.K) idxD := by
  intro σ e H x y d1 d2 Q s i1 i2 q
  unfold idxD at q
  split at q
  · split at q
    · rename_i d hd
      obtain ⟨a, vs, rfl, h1, h2⟩ := i1
      cases i2
      obtain ⟨v, h3, h4⟩ := h2.atI hd
      exact .inl ⟨a, vs, _, v, rfl, rfl, .inl (.inl h1), h3, q.val h4⟩
    · exact q.elim
  · split at q
    · rename_i d hd
      obtain ⟨a, vs, rfl, h1, h2⟩ := i1
      cases i2
      obtain ⟨v, h3, h4⟩ := h2.atI hd
      exact .inr (.inl ⟨a, vs, _, v, rfl, rfl, h1, h3, q.val h4⟩)
    · exact q.elim
  · split at q
    · rename_i n hd
      obtain ⟨a, rfl, h1⟩ := i1
      cases i2
      exact .inl ⟨a, _, _, _, rfl, rfl, h1 H fun _ _ z => z, by rw [atI_map, hd]; rfl, q.val rfl⟩
    · exact q.elim
  · split at q
    · rename_i hz
      split at q
      · rename_i c hc
        cases i1
        cases i2
        exact .inr (.inr ⟨_, _, c, rfl, rfl, hz, hc, q.val rfl⟩)
      · exact q.elim
    · exact q.elim
  · exact q.elim
theorem je_ix {a b : Expr} {f g : MD D} {pos : Pos} (hK : C.k.K = X.K) (hs : PlainIx b) (ha : PE X a (tE C f)) (hb : PE X b (tE C g)) : PE X (.Subscript a b pos) (tE C (bin2 idxD f g)) := by
  refine PE.imp (pe_ix ix_seq ha hb hs) ?_
  rw [← hK]
  exact tE_bin opd_idx idxD_nx
def tO (C : Ct) (f : MD (Option Int)) : TO := fun σ H Q => ∃ e, SR C e σ H ∧ Out (fun p => ∀ H', Ext (OW C σ) H H' → SR C p.2 σ H' → Q p.1 H') (XO C σ H) (f e)
theorem PO.imp {e : Option Expr} {t t' : TO} (h : PO X e t) (i : ∀ σ H Q, t' σ H Q → t σ H Q) : PO X e t' := ⟨fun pins s σ H Q I hw => h.run pins s σ H Q I (i σ H Q hw)⟩
theorem jo_none : PO X none (tO C noP) := PO.imp po_none fun σ H Q ⟨e, s, o⟩ => o H (Ext.refl _ _) s
theorem jo_some {a : Expr} {f : MD D} (ha : PE X a (tE C f)) : PO X (some a) (tO C (soP f)) := by
  refine PO.imp (po_some ha) fun σ H Q ⟨e, s, o⟩ => ⟨e, s, (Out.bind o).imp (fun p hp => ?_) fun _ _ z => z⟩
  obtain ⟨d, e1⟩ := p
  intro v H1 x1 s1 i1
  cases d with
  | int i =>
    cases i1
    exact ⟨i, rfl, hp H1 x1 s1⟩
  | _ => exact hp.elim
abbrev rSlX (K : PySem.W.Frag) : V → Option Int → Option Int → Hp → VK → Prop := fun x lo hi H Q => rSlL K x lo hi H Q ∨ (rSlA K x lo hi H Q ∨ rSlS x lo hi H Q)
theorem sl_X : SlR X (rSlX X.K) := sl_list.or (sl_tupA.or sl_str)
theorem IsDs.cut {k : Kx} {H : Hp} {M : Addr → Prop} {ds : List D} {vs : List V} (h : IsDs k H M ds vs) (lo hi : Option Int) : IsDs k H M (cutG ds lo hi) (cutV vs lo hi) := by
  unfold cutG cutV
  rw [h.length]
  exact (h.drop _).take _
theorem cut_whole {α : Type} {xs : List α} {lo hi : Option Int} (h : HT.sIx xs.length 0 lo = 0 ∧ HT.sIx xs.length xs.length hi = xs.length) : cutG xs lo hi = xs := by
  unfold cutG
  rw [h.1, h.2]
  simp
theorem je_sli {a : Expr} {f : MD D} {fl fu : MD (Option Int)} {lo hi : Option Expr} {pos p2 : Pos} (hK : C.k.K = X.K) (ha : PE X a (tE C f)) (hl : PO X lo (tO C fl)) (hu : PO X hi (tO C fu)) : PE X (.Subscript a (.Slice lo hi none p2) pos) (tE C (sliE f fl fu)) := by
  refine PE.imp (pe_slice sl_X ha hl hu) fun σ H Q ⟨e, s, o⟩ => ⟨e, s, (Out.bind o).imp (fun p hp => ?_) fun _ _ z => z⟩
  rw [← hK]
  intro v H1 x1 s1 i1
  refine ⟨p.2, s1, (Out.bind hp).imp (fun l hl => ?_) fun _ _ z => z.ext x1⟩
  intro H2 x2 s2
  refine ⟨l.2, s2, (Out.bind hl).imp (fun u hu => ?_) fun _ _ z => z.ext (x1.trans x2)⟩
  intro H3 x3 s3
  have i3 := (Stp.of (x2.trans x3)).isD i1
  have q : PNew C σ H3 Q (sliR l.1 u.1 p.1) := PNew.of hu ((x1.trans x2).trans x3) s3 (fun y l => by
    unfold sliR
    split <;> (try split) <;> simp)
  unfold sliR at q
  split at q
  · rename_i ds e0
    rw [e0] at i3
    obtain ⟨a, vs, rfl, h1, _, h2⟩ := i3
    exact .inl ⟨a, vs, rfl, .inl (.inl h1), fun p hp => q.lst s3 hp (h2.cut _ _)⟩
  · rename_i ds e0
    rw [e0] at i3
    obtain ⟨a, vs, rfl, h1, h2⟩ := i3
    refine .inr (.inl ⟨a, vs, rfl, h1, fun hw => ?_, fun _ p hp => q.tup (e := e) hp (h2.cut _ _)⟩)
    rw [h2.length] at hw
    rw [cut_whole hw] at q
    exact q.val ⟨a, vs, rfl, h1, h2⟩
  · rename_i ns e0
    rw [e0] at i3
    obtain ⟨a, rfl, h1⟩ := i3
    refine .inl ⟨a, _, rfl, h1 H3 fun _ _ z => z, fun p hp => q.lst s3 hp ?_⟩
    have : ∀ (ms : List Int), IsDs C.k H3 (MO C σ) (ms.map .int) (ms.map V.int) := fun ms => by
      induction ms with
      | nil => exact rfl
      | cons m r ih => exact .cons rfl ih
    have e1 : cutV (ns.map V.int) l.1 u.1 = (cutG ns l.1 u.1).map V.int := by
      unfold cutV cutG
      rw [List.length_map, List.map_take, List.map_drop]
    rw [e1]
    exact this _
  · split at q
    · rename_i z e0 hz
      rw [e0] at i3
      cases i3
      exact .inr (.inr ⟨_, rfl, hz, q.val rfl⟩)
    · exact q.elim
  · exact q.elim

/-! ### calls of built-ins -/
def callD (F : List D → R D) (fa : MD (List D)) : MD D := fun e => (fa e).bind fun p => (F p.1).at p.2
def CaD (C : Ct) (r : List V → Hp → VK → Prop) (F : List D → R D) : Prop := ∀ (σ : L2.St) (e : Lc) (H : Hp) (vs : List V) (ds : List D) (Q : VK), SR C e σ H → IsTs C.k H (MO C σ) ds vs → PNew C σ H Q (F ds) → r vs H Q
theorem tE_call {r : List V → Hp → VK → Prop} {F : List D → R D} {fa : MD (List D)} (hd : CaD C r F) (nx : ∀ a y l, F a ≠ .exc y l) (σ : L2.St) (H : Hp) (Q : VK) (h : tE C (callD F fa) σ H Q) : tCB r (tA C fa) σ H Q := by
  obtain ⟨e, s, o⟩ := h
  refine ⟨e, s, (Out.bind o).imp (fun p hp => ?_) fun _ _ z => z⟩
  intro vs H1 x1 s1 i1
  exact hd σ p.2 H1 vs p.1 Q s1 i1.t (PNew.of hp x1 s1 (nx _))
section
variable {x : Str} {p pos : Pos} {e : Expr} {es : List Expr} {id T : String} {r : List V → Hp → VK → Prop} {F : List D → R D} {fa : MD (List D)}
theorem je_callB (hc : CallR X (.builtin id) r) (hd : CaD C r F) (nx : ∀ a y l, F a ≠ .exc y l) (hg : Gl X x) (hm : X.mg x = none) (hv : bootBuiltins x = some (.builtin id)) (ha : PA X (e :: es) (tA C fa)) (hn : x ≠ "__name__" := by decide) (hdb : (x == ("__debug__" : Str)) = false := by decide)
    (he : starEach (e :: es) X.env = (false, eval e X.env) :: starEach es X.env := by rfl) (hpl : (backTo pos (starEach es X.env)).any (·.1) = false := by rfl) : PE X (.Call (.Name x p) (e :: es) [] pos) (tE C (callD F fa)) :=
  PE.imp (pe_callB hc hg hm hv ha hn hdb he hpl) (tE_call hd nx)
theorem je_callTy (hc : CallR X (.type T) r) (hd : CaD C r F) (nx : ∀ a y l, F a ≠ .exc y l) (hg : Gl X x) (hm : X.mg x = none) (hv : bootBuiltins x = some (.type T)) (ha : PA X (e :: es) (tA C fa)) (hn : x ≠ "__name__" := by decide) (hdb : (x == ("__debug__" : Str)) = false := by decide)
    (he : starEach (e :: es) X.env = (false, eval e X.env) :: starEach es X.env := by rfl) (hpl : (backTo pos (starEach es X.env)).any (·.1) = false := by rfl) : PE X (.Call (.Name x p) (e :: es) [] pos) (tE C (callD F fa)) :=
  PE.imp (pe_callTy hc hg hm hv ha hn hdb he hpl) (tE_call hd nx)
end
/-- len -/
def lenD : List D → R D
  | [.lst ds] => .ok (.int ds.length)
  | [.tup ds] => .ok (.int ds.length)
  | [.scr ns] => .ok (.int ns.length)
  | [.dct ks _] => .ok (.int ks.length)
  | [.str z] => if z.length ≤ sizeLine then .ok (.int z.length) else .bad
  | _ => .bad
abbrev rLenD : List V → Hp → VK → Prop := fun xs H Q => ∃ a kvs, xs = [V.ref a] ∧ H a = some (.dK kvs) ∧ Q (.int kvs.length) H
abbrev rLenX (K : PySem.W.Frag) : List V → Hp → VK → Prop := fun xs H Q => (∃ x n, xs = [x] ∧ LenV K x H n ∧ Q (.int n) H) ∨ rLenD xs H Q
theorem call_lenX : CallR X (.builtin "len") (rLenX X.K) := call_len.or call_lenD
theorem IsTs.one {k : Kx} {H : Hp} {M : Addr → Prop} {d : D} {vs : List V} (h : IsTs k H M [d] vs) : ∃ v, vs = [v] ∧ IsT k H M d v := by
  obtain ⟨v, r, e, h1, h2⟩ := h
  rw [show r = [] from h2] at e
  exact ⟨v, e, h1⟩
theorem IsTs.two {k : Kx} {H : Hp} {M : Addr → Prop} {d d' : D} {vs : List V} (h : IsTs k H M [d, d'] vs) : ∃ v w, vs = [v, w] ∧ IsT k H M d v ∧ IsT k H M d' w := by
  obtain ⟨v, r, e, h1, h2⟩ := h
  obtain ⟨w, e2, h3⟩ := IsTs.one h2
  subst e2
  exact ⟨v, w, e, h1, h3⟩
theorem lenD_nx (a : List D) (y : Ex) (l : Lc) : lenD a ≠ .exc y l := by
  unfold lenD
  split <;> (try split) <;> simp
theorem cad_len : CaD C (rLenX C.k.K) lenD := by
  intro σ e H vs ds Q s i q
  unfold lenD at q
  split at q
  · obtain ⟨v, rfl, a, ws, rfl, h1, h2⟩ := i.one
    exact .inl ⟨_, _, rfl, .inl ⟨ws, .inl (.inl h1), h2.length.symm⟩, q.val rfl⟩
  · obtain ⟨v, rfl, a, ws, rfl, h1, h2⟩ := i.one
    exact .inl ⟨_, _, rfl, .inr ⟨ws, h1, h2.length.symm⟩, q.val rfl⟩
  · obtain ⟨v, rfl, a, rfl, h1⟩ := i.one
    exact .inl ⟨_, _, rfl, .inl ⟨_, h1 H fun _ _ z => z, (List.length_map _).symm⟩, q.val rfl⟩
  · obtain ⟨v, rfl, a, kvs, rfl, h1, h2, _⟩ := i.one
    refine .inr ⟨a, kvs, rfl, h1, ?_⟩
    rw [← h2, List.length_map] at q
    exact q.val rfl
  · split at q
    · rename_i hz
      obtain ⟨v, rfl, h⟩ := i.one
      cases h
      exact .inl ⟨_, _, rfl, ⟨hz, rfl⟩, q.val rfl⟩
    · exact q.elim
  · exact q.elim
/-- abs, int, bool of numbers -/
def absD : List D → R D
  | [.int i] => .ok (.int (if i < 0 then -i else i))
  | _ => .bad
def intD : List D → R D
  | [.int i] => .ok (.int i)
  | [.bl b] => .ok (.int (if b then 1 else 0))
  | _ => .bad
def boolD : List D → R D
  | [.int i] => .ok (.bl (i != 0))
  | [.bl b] => .ok (.bl b)
  | _ => .bad
def maxD : List D → R D
  | [.int i, .int j] => .ok (.int (if j > i then j else i))
  | [.lst ds] => match intsD ds with
    | some (n :: ns) => .ok (.int (ns.foldl max n))
    | _ => .bad
  | _ => .bad
def minD : List D → R D
  | [.int i, .int j] => .ok (.int (if j < i then j else i))
  | [.lst ds] => match intsD ds with
    | some (n :: ns) => .ok (.int (ns.foldl min n))
    | _ => .bad
  | _ => .bad
def sumD : List D → R D
  | [.lst ds] => match intsD ds with
    | some ns => .ok (.int ns.sum)
    | none => .bad
  | _ => .bad
def blsD : List D → Option (List Bool)
  | [] => some []
  | .bl b :: r => match blsD r with
    | some bs => some (b :: bs)
    | none => none
  | _ :: _ => none
def allD : List D → R D
  | [.lst ds] => match blsD ds with
    | some bs => .ok (.bl (bs.all id))
    | none => .bad
  | _ => .bad
def anyD : List D → R D
  | [.lst ds] => match blsD ds with
    | some bs => .ok (.bl (bs.any id))
    | none => .bad
  | _ => .bad
def tupleD : List D → R D
  | [.lst ds] => .ok (.tup ds)
  | [.tup ds] => .ok (.tup ds)
  | _ => .bad
def listD : List D → R D
  | [.lst ds] => .ok (.lst ds)
  | [.tup ds] => .ok (.lst ds)
  | _ => .bad
def divmodD : List D → R D
  | [.int i, .int j] => if 0 < j ∧ j < 1073741824 then .ok (.tup [.int (i / j), .int (i % j)]) else .bad
  | _ => .bad
theorem absD_nx (a : List D) (y : Ex) (l : Lc) : absD a ≠ .exc y l := by unfold absD; split <;> simp
theorem intD_nx (a : List D) (y : Ex) (l : Lc) : intD a ≠ .exc y l := by unfold intD; split <;> simp
theorem boolD_nx (a : List D) (y : Ex) (l : Lc) : boolD a ≠ .exc y l := by unfold boolD; split <;> simp
theorem maxD_nx (a : List D) (y : Ex) (l : Lc) : maxD a ≠ .exc y l := by unfold maxD; split <;> (try split) <;> simp
theorem minD_nx (a : List D) (y : Ex) (l : Lc) : minD a ≠ .exc y l := by unfold minD; split <;> (try split) <;> simp
theorem sumD_nx (a : List D) (y : Ex) (l : Lc) : sumD a ≠ .exc y l := by unfold sumD; split <;> (try split) <;> simp
theorem allD_nx (a : List D) (y : Ex) (l : Lc) : allD a ≠ .exc y l := by unfold allD; split <;> (try split) <;> simp
theorem anyD_nx (a : List D) (y : Ex) (l : Lc) : anyD a ≠ .exc y l := by unfold anyD; split <;> (try split) <;> simp
theorem tupleD_nx (a : List D) (y : Ex) (l : Lc) : tupleD a ≠ .exc y l := by unfold tupleD; split <;> simp
theorem listD_nx (a : List D) (y : Ex) (l : Lc) : listD a ≠ .exc y l := by unfold listD; split <;> simp
theorem divmodD_nx (a : List D) (y : Ex) (l : Lc) : divmodD a ≠ .exc y l := by unfold divmodD; split <;> (try split) <;> simp
theorem cad_abs : CaD C (fun xs H Q => ∃ i, xs = [.int i] ∧ Q (.int (if i < 0 then -i else i)) H) absD := by
  intro σ e H vs ds Q s i q
  unfold absD at q
  split at q
  · obtain ⟨v, rfl, h⟩ := i.one
    cases h
    exact ⟨_, rfl, q.val rfl⟩
  · exact q.elim
theorem cad_int : CaD C (fun xs H Q => (∃ i, xs = [.int i] ∧ Q (.int i) H) ∨ ∃ k, xs = [.bl k] ∧ Q (.int (if k then 1 else 0)) H) intD := by
  intro σ e H vs ds Q s i q
  unfold intD at q
  split at q
  · obtain ⟨v, rfl, h⟩ := i.one
    cases h
    exact .inl ⟨_, rfl, q.val rfl⟩
  · obtain ⟨v, rfl, h⟩ := i.one
    cases h
    exact .inr ⟨_, rfl, q.val rfl⟩
  · exact q.elim
theorem cad_bool : CaD C (fun xs H Q => (∃ i, xs = [.int i] ∧ Q (.bl (i != 0)) H) ∨ ∃ k, xs = [.bl k] ∧ Q (.bl k) H) boolD := by
  intro σ e H vs ds Q s i q
  unfold boolD at q
  split at q
  · obtain ⟨v, rfl, h⟩ := i.one
    cases h
    exact .inl ⟨_, rfl, q.val rfl⟩
  · obtain ⟨v, rfl, h⟩ := i.one
    cases h
    exact .inr ⟨_, rfl, q.val rfl⟩
  · exact q.elim
theorem foldl_max_mem : ∀ (ns : List Int) (n : Int), ns.foldl max n ∈ n :: ns ∧ ∀ y ∈ n :: ns, y ≤ ns.foldl max n
  | [], n => ⟨List.mem_cons_self, fun y h => by
    rcases List.mem_cons.mp h with h | h
    · rw [h]; exact Int.le_refl _
    · cases h⟩
  | m :: ns, n => by
    obtain ⟨h1, h2⟩ := foldl_max_mem ns (max n m)
    refine ⟨?_, fun y h => ?_⟩
    · rw [List.foldl_cons]
      rcases List.mem_cons.mp h1 with h | h
      · rw [h]
        rcases Int.le_total n m with z | z
        · rw [Int.max_eq_right z]
          exact List.mem_cons_of_mem _ List.mem_cons_self
        · rw [Int.max_eq_left z]
          exact List.mem_cons_self
      · exact List.mem_cons_of_mem _ (List.mem_cons_of_mem _ h)
    · rw [List.foldl_cons]
      have h3 := h2 (max n m) List.mem_cons_self
      rcases List.mem_cons.mp h with h | h
      · have := Int.le_max_left n m
        omega
      · rcases List.mem_cons.mp h with h | h
        · have := Int.le_max_right n m
          omega
        · exact h2 y (List.mem_cons_of_mem _ h)
theorem foldl_min_mem : ∀ (ns : List Int) (n : Int), ns.foldl min n ∈ n :: ns ∧ ∀ y ∈ n :: ns, ns.foldl min n ≤ y
  | [], n => ⟨List.mem_cons_self, fun y h => by
    rcases List.mem_cons.mp h with h | h
    · rw [h]; exact Int.le_refl _
    · cases h⟩
  | m :: ns, n => by
    obtain ⟨h1, h2⟩ := foldl_min_mem ns (min n m)
    refine ⟨?_, fun y h => ?_⟩
    · rw [List.foldl_cons]
      rcases List.mem_cons.mp h1 with h | h
      · rw [h]
        rcases Int.le_total n m with z | z
        · rw [Int.min_eq_left z]
          exact List.mem_cons_self
        · rw [Int.min_eq_right z]
          exact List.mem_cons_of_mem _ List.mem_cons_self
      · exact List.mem_cons_of_mem _ (List.mem_cons_of_mem _ h)
    · rw [List.foldl_cons]
      have h3 := h2 (min n m) List.mem_cons_self
      rcases List.mem_cons.mp h with h | h
      · have := Int.min_le_left n m
        omega
      · rcases List.mem_cons.mp h with h | h
        · have := Int.min_le_right n m
          omega
        · exact h2 y (List.mem_cons_of_mem _ h)
abbrev rMaxX (K : PySem.W.Frag) : List V → Hp → VK → Prop := fun xs H Q => (∃ i j, xs = [.int i, .int j] ∧ Q (.int (if j > i then j else i)) H) ∨ rMax K xs H Q
abbrev rMinX (K : PySem.W.Frag) : List V → Hp → VK → Prop := fun xs H Q => (∃ i j, xs = [.int i, .int j] ∧ Q (.int (if j < i then j else i)) H) ∨ rMin K xs H Q
theorem call_maxX (hc : X.calm = true) : CallR X (.builtin "max") (rMaxX X.K) := (call_max2 hc).or (cr_max hc)
theorem call_minX (hc : X.calm = true) : CallR X (.builtin "min") (rMinX X.K) := (call_min2 hc).or (cr_min hc)
theorem max_uniq {ns : List Int} {a b : Int} (h1 : a ∈ ns) (h2 : ∀ y ∈ ns, y ≤ a) (h3 : b ∈ ns) (h4 : ∀ y ∈ ns, y ≤ b) : a = b := by
  have := h2 b h3
  have := h4 a h1
  omega
theorem cad_max : CaD C (rMaxX C.k.K) maxD := by
  intro σ e H vs ds Q s i q
  unfold maxD at q
  split at q
  · obtain ⟨v, w, rfl, h, h'⟩ := i.two
    cases h
    cases h'
    exact .inl ⟨_, _, rfl, q.val rfl⟩
  · split at q
    · rename_i n ns e1
      obtain ⟨v, rfl, a, ws, rfl, h1, h2⟩ := i.one
      rw [ints_of h2 e1] at h1
      refine .inr ⟨a, _, rfl, .inl (.inl h1), by simp, fun m hm hy => ?_⟩
      obtain ⟨h3, h4⟩ := foldl_max_mem ns n
      rw [max_uniq hm hy h3 h4]
      exact q.val rfl
    · exact q.elim
  · exact q.elim
theorem cad_min : CaD C (rMinX C.k.K) minD := by
  intro σ e H vs ds Q s i q
  unfold minD at q
  split at q
  · obtain ⟨v, w, rfl, h, h'⟩ := i.two
    cases h
    cases h'
    exact .inl ⟨_, _, rfl, q.val rfl⟩
  · split at q
    · rename_i n ns e1
      obtain ⟨v, rfl, a, ws, rfl, h1, h2⟩ := i.one
      rw [ints_of h2 e1] at h1
      refine .inr ⟨a, _, rfl, .inl (.inl h1), by simp, fun m hm hy => ?_⟩
      obtain ⟨h3, h4⟩ := foldl_min_mem ns n
      have e2 : m = ns.foldl min n := by
        have := hy _ h3
        have := h4 _ hm
        omega
      rw [e2]
      exact q.val rfl
    · exact q.elim
  · exact q.elim
theorem cad_sum : CaD C (rSum C.k.K) sumD := by
  intro σ e H vs ds Q s i q
  unfold sumD at q
  split at q
  · split at q
    · rename_i ns e1
      obtain ⟨v, rfl, a, ws, rfl, h1, h2⟩ := i.one
      rw [ints_of h2 e1] at h1
      exact ⟨a, ns, rfl, .inl (.inl h1), q.val rfl⟩
    · exact q.elim
  · exact q.elim
theorem bls_of {k : Kx} {H : Hp} {M : Addr → Prop} : ∀ {ds : List D} {vs : List V} {bs : List Bool}, IsDs k H M ds vs → blsD ds = some bs → vs = bs.map V.bl
  | [], vs, bs, i, e => by
    cases e
    exact i
  | .bl j :: r, vs, bs, ⟨v, vr, e1, h1, h2⟩, e => by
    unfold blsD at e
    split at e
    · rename_i xs e2
      cases e
      cases h1
      rw [e1, bls_of h2 e2]
      rfl
    · cases e
  | .non :: r, vs, ns, _, e => by cases e
  | .int _ :: r, vs, ns, _, e => by cases e
  | .str _ :: r, vs, ns, _, e => by cases e
  | .tup _ :: r, vs, ns, _, e => by cases e
  | .lst _ :: r, vs, ns, _, e => by cases e
  | .dct _ _ :: r, vs, ns, _, e => by cases e
  | .fn _ :: r, vs, ns, _, e => by cases e
  | .scr _ :: r, vs, ns, _, e => by cases e
theorem cad_all : CaD C (rAll C.k.K) allD := by
  intro σ e H vs ds Q s i q
  unfold allD at q
  split at q
  · split at q
    · rename_i ns e1
      obtain ⟨v, rfl, a, ws, rfl, h1, h2⟩ := i.one
      rw [bls_of h2 e1] at h1
      exact ⟨a, ns, rfl, .inl (.inl h1), q.val rfl⟩
    · exact q.elim
  · exact q.elim
theorem cad_any : CaD C (rAny C.k.K) anyD := by
  intro σ e H vs ds Q s i q
  unfold anyD at q
  split at q
  · split at q
    · rename_i ns e1
      obtain ⟨v, rfl, a, ws, rfl, h1, h2⟩ := i.one
      rw [bls_of h2 e1] at h1
      exact ⟨a, ns, rfl, .inl (.inl h1), q.val rfl⟩
    · exact q.elim
  · exact q.elim
abbrev rTupleX (K : PySem.W.Frag) : List V → Hp → VK → Prop := fun xs H Q => ∃ p ys, xs = [.ref p] ∧ ((SqL K H p ys ∧ ∀ l, H l = none → Q (.ref l) (upd H l (.tup ys))) ∨ (SqT K H p ys ∧ Q (.ref p) H))
abbrev rListX (K : PySem.W.Frag) : List V → Hp → VK → Prop := fun xs H Q => ∃ p ys, xs = [.ref p] ∧ (SqL K H p ys ∨ SqT K H p ys) ∧ ∀ l, H l = none → Q (.ref l) (upd H l (.lst ys))
theorem cad_tuple : CaD C (rTupleX C.k.K) tupleD := by
  intro σ e H vs ds Q s i q
  unfold tupleD at q
  split at q
  · obtain ⟨v, rfl, a, ws, rfl, h1, h2⟩ := i.one
    exact ⟨a, ws, rfl, .inl ⟨.inl (.inl h1), fun l hl => q.tup (e := e) hl h2⟩⟩
  · obtain ⟨v, rfl, a, ws, rfl, h1, h2⟩ := i.one
    exact ⟨a, ws, rfl, .inr ⟨h1, q.val ⟨a, ws, rfl, h1, h2⟩⟩⟩
  · exact q.elim
theorem cad_list : CaD C (rListX C.k.K) listD := by
  intro σ e H vs ds Q s i q
  unfold listD at q
  split at q
  · obtain ⟨v, rfl, a, ws, rfl, h1, h2⟩ := i.one
    exact ⟨a, ws, rfl, .inl (.inl (.inl h1)), fun l hl => q.lst s hl h2⟩
  · obtain ⟨v, rfl, a, ws, rfl, h1, h2⟩ := i.one
    exact ⟨a, ws, rfl, .inr h1, fun l hl => q.lst s hl h2⟩
  · exact q.elim
theorem cad_divmod : CaD C (fun xs H Q => ∃ i j, xs = [.int i, .int j] ∧ CDiv i j ∧ ∀ p, H p = none → Q (.ref p) (upd H p (.tup [.int (i / j), .int (i % j)]))) divmodD := by
  intro σ e H vs ds Q s i q
  unfold divmodD at q
  split at q
  · split at q
    · rename_i hz
      obtain ⟨v, w, rfl, h, h'⟩ := i.two
      cases h
      cases h'
      exact ⟨_, _, rfl, hz, fun p hp => q.tup (e := e) hp (.cons rfl (.cons rfl .nil))⟩
    · exact q.elim
  · exact q.elim

/-! ### isinstance -/
def isiD (f : D → Option Bool) : D → R D := fun d => match f d with
  | some b => .ok (.bl b)
  | none => .bad
def isInt : D → Option Bool
  | .int _ => some true
  | .bl _ => some true
  | .fn _ => none
  | _ => some false
def isBool : D → Option Bool
  | .bl _ => some true
  | .fn _ => none
  | _ => some false
def isTup : D → Option Bool
  | .tup _ => some true
  | .fn _ => none
  | _ => some false
def isStr : D → Option Bool
  | .str _ => some true
  | .fn _ => none
  | _ => some false
def isLst : D → Option Bool
  | .lst _ => some true
  | .scr _ => some true
  | .fn _ => none
  | _ => some false
/-- F is isinstance's answer for the type T -/
def IsiOk (T : String) (F : D → Option Bool) : Prop := ∀ (k : Kx) (H : Hp) (M : Addr → Prop) (d : D) (v : V) (b : Bool), IsD k H M d v → F d = some b → ∃ t, TyX k.K H v t ∧ PySem.W.kitOne k.K t (.type T) = some b
theorem scr_ty {K : PySem.W.Frag} {H : Hp} {a : Addr} {xs : List V} (h : SqL K H a xs) : TyX K H (.ref a) (.type "list") := by
  rcases h with (h | ⟨o, h⟩) | ⟨o, its, n, h1, h2, _⟩
  · exact .base (.lst h)
  · exact .base (.frz h)
  · exact .kList h1 h2
theorem tup_ty {K : PySem.W.Frag} {H : Hp} {a : Addr} {xs : List V} (h : SqT K H a xs) : TyX K H (.ref a) (.type "tuple") := by
  rcases h with (h | ⟨o, h⟩) | ⟨o, its, n, h1, h2, _⟩
  · exact .base (.tup h)
  · exact .fTuple h
  · exact .kTuple h1 h2
theorem isi_mk {T : String} {F : D → Option Bool} (hn : ∀ b, F .non = some b → kitB "NoneType" T = some b) (hb : ∀ c b, F (.bl c) = some b → kitB "bool" T = some b) (hi : ∀ c b, F (.int c) = some b → kitB "int" T = some b) (hs : ∀ c b, F (.str c) = some b → kitB "str" T = some b)
    (ht : ∀ c b, F (.tup c) = some b → kitB "tuple" T = some b) (hl : ∀ c b, F (.lst c) = some b → kitB "list" T = some b) (hr : ∀ c b, F (.scr c) = some b → kitB "list" T = some b) (hd : ∀ c c' b, F (.dct c c') = some b → kitB "dict" T = some b) (hf : ∀ c, F (.fn c) = none) : IsiOk T F := by
  intro k H M d v b i e
  cases d with
  | non => cases i; exact ⟨_, .base .non, kit_ty (hn b e)⟩
  | bl c => cases i; exact ⟨_, .base (.bl c), kit_ty (hb c b e)⟩
  | int c => cases i; exact ⟨_, .base (.int c), kit_ty (hi c b e)⟩
  | str c => cases i; exact ⟨_, .base (.str c), kit_ty (hs c b e)⟩
  | tup c => obtain ⟨a, vs, rfl, h1, _⟩ := i; exact ⟨_, tup_ty h1, kit_ty (ht c b e)⟩
  | lst c => obtain ⟨a, vs, rfl, h1, _⟩ := i; exact ⟨_, .base (.lst h1), kit_ty (hl c b e)⟩
  | scr c => obtain ⟨a, rfl, h1⟩ := i; exact ⟨_, scr_ty (h1 H fun _ _ z => z), kit_ty (hr c b e)⟩
  | dct c c' => obtain ⟨a, vs, rfl, h1, _⟩ := i; exact ⟨_, .base (.dK h1), kit_ty (hd c c' b e)⟩
  | fn c =>
    rw [hf c] at e
    cases e
end
end Dn

namespace Dn
open PySem PySem.Spec PyProof.Rows L2

/-! ### statements -/
inductive Fl where
  | nx | rt (d : D) | bk | ct
abbrev MS := Lc → R (Fl × Lc)
def XS (C : Ct) (σ : L2.St) (H : Hp) : Ex → Lc → Prop := fun x e => ∀ cls xd σ' H', Stp C σ H σ' H' → SR C e σ' H' → ExR C.k (MO C σ') x cls xd H' → C.W cls xd σ' H'
/-- a new list is given back -/
def RNew (C : Ct) (e : Lc) (H' : Hp) (d : D) (v : V) : Prop := ∃ ds q vs, d = .lst ds ∧ v = .ref q ∧ C.H0 q = none ∧ H' q = some (.lst vs) ∧ IsDs C.k (era H' q) C.M ds vs ∧ ∀ a, C.par = some a → ∀ d0, e[0]? = some (some d0) → 0 ∈ C.own → OwnD C.k (era H' q) C.M d0 a
/-- what a return leaves -/
structure SE (C : Ct) (e : Lc) (H' : Hp) : Prop where
  ext : ∀ a o, C.H0 a = some o → (C.par ≠ some a ∨ Fx o) → H' a = some o
  own0 : ∀ a, C.par = some a → ∀ d0, e[0]? = some (some d0) → 0 ∈ C.own → OwnD C.k H' C.M d0 a
theorem SR.se {C : Ct} {e : Lc} {σ : L2.St} {H : Hp} (s : SR C e σ H) : SE C e H := ⟨s.ext, fun a ha d0 he h0 => by
  obtain ⟨b', h5, h6⟩ := s.ow 0 d0 h0 he
  rw [s.p0 a ha] at h5
  cases h5
  exact OwnD.step (Ext.refl _ _) (fun b z => .inl (.inl z)) h6 fun _ z => z⟩
def PSt (C : Ct) (σ : L2.St) (H : Hp) (Dn : Ends) (p : Fl × Lc) : Prop := match p.1 with
  | .nx => ∀ σ' H', Stp C σ H σ' H' → SR C p.2 σ' H' → Dn.nx σ' H'
  | .rt d => ∀ v H', SE C p.2 H' → IsD C.k H' C.M d v → (C.nw = true → RNew C p.2 H' d v) → Dn.rt v H'
  | .bk => ∀ σ' H', Stp C σ H σ' H' → SR C p.2 σ' H' → Dn.bk σ' H'
  | .ct => ∀ σ' H', Stp C σ H σ' H' → SR C p.2 σ' H' → Dn.ct σ' H'
def OS (C : Ct) (σ : L2.St) (H : Hp) (Dn : Ends) (r : R (Fl × Lc)) : Prop := Out (PSt C σ H Dn) (XS C σ H) r
def tS (C : Ct) (f : MS) : TS := fun Dn σ H => ∃ e, SR C e σ H ∧ OS C σ H Dn (f e)
section
variable {X : Cx} {C : Ct}
theorem XS.xo {σ : L2.St} {H : Hp} {x : Ex} {e : Lc} (h : XS C σ H x e) : XO C σ H x e := fun cls xd H' x' s' r => h cls xd σ H' (Stp.of x') s' r
theorem XS.step {σ σ1 : L2.St} {H H1 : Hp} {x : Ex} {e : Lc} (h : XS C σ H x e) (a : Stp C σ H σ1 H1) : XS C σ1 H1 x e := fun cls xd σ' H' x' s' r => h cls xd σ' H' (a.trans x') s' r
theorem OS.step {σ σ1 : L2.St} {H H1 : Hp} {Dn : Ends} {r : R (Fl × Lc)} (h : OS C σ H Dn r) (a : Stp C σ H σ1 H1) : OS C σ1 H1 Dn r := by
  refine h.imp (fun p hp => ?_) fun _ _ z => z.step a
  obtain ⟨fl, e⟩ := p
  cases fl with
  | nx => exact fun σ' H' x' s' => hp σ' H' (a.trans x') s'
  | rt d => exact hp
  | bk => exact fun σ' H' x' s' => hp σ' H' (a.trans x') s'
  | ct => exact fun σ' H' x' s' => hp σ' H' (a.trans x') s'
def nxS : MS := fun e => .ok (.nx, e)
def seqS (f g : MS) : MS := fun e => (f e).bind fun p => match p.1 with
  | .nx => g p.2
  | fl => .ok (fl, p.2)
variable {st : Stmt} {sts : List Stmt} {f g : MS} {a b c : Expr} {fe ge : MD D} {pos : Pos}
theorem js_nil : PSs X [] (tS C nxS) := PSs.imp pss_nil fun D σ H ⟨e, s, o⟩ => o σ H Stp.refl s
theorem tS_seq {D : Ends} {σ : L2.St} {H : Hp} (h : tS C (seqS f g) D σ H) : tSeq (tS C f) (tS C g) D σ H := by
  obtain ⟨e, s, o⟩ := h
  refine ⟨e, s, (Out.bind o).imp (fun p hp => ?_) fun _ _ z => z⟩
  obtain ⟨fl, e1⟩ := p
  cases fl with
  | nx => exact fun σ' H' x' s' => ⟨e1, s', OS.step hp x'⟩
  | rt d => exact hp
  | bk => exact hp
  | ct => exact hp
theorem js_cons (h1 : PS X st (tS C f)) (h2 : PSs X sts (tS C g)) : PSs X (st :: sts) (tS C (seqS f g)) := PSs.imp (pss_cons h1 h2) fun D σ H h => tS_seq h
theorem js_one (h1 : PS X st (tS C f)) : PSs X [st] (tS C f) := pss_one h1
def passS : MS := fun e => .ok (.nx, e)
def bkS : MS := fun e => .ok (.bk, e)
def ctS : MS := fun e => .ok (.ct, e)
theorem js_pass : PS X (.Pass pos) (tS C passS) := PS.imp ps_pass fun D σ H ⟨e, s, o⟩ => o σ H Stp.refl s
theorem js_break : PS X (.Break pos) (tS C bkS) := PS.imp ps_break fun D σ H ⟨e, s, o⟩ => o σ H Stp.refl s
theorem js_continue : PS X (.Continue pos) (tS C ctS) := PS.imp ps_continue fun D σ H ⟨e, s, o⟩ => o σ H Stp.refl s
def expS (f : MD D) : MS := fun e => (f e).bind fun p => .ok (.nx, p.2)
theorem js_expr (he : PE X a (tE C fe)) (hs : swapsWith a none pos.line X.env = pure false := by rfl) : PS X (.Expr a pos) (tS C (expS fe)) := by
  refine PS.imp (ps_expr he hs) fun D σ H ⟨e, s, o⟩ => ⟨e, s, (Out.bind o).imp (fun p hp => ?_) fun _ _ z => z.xo⟩
  intro v H1 x1 s1 i1
  exact hp σ H1 (Stp.of x1) s1
def retS (f : MD D) : MS := fun e => (f e).bind fun p => .ok (.rt p.1, p.2)
theorem js_ret (he : PE X a (tE C fe)) (hn : C.nw = false := by rfl) : PS X (.Return (some a) pos) (tS C (retS fe)) := by
  refine PS.imp (ps_ret he) fun D σ H ⟨e, s, o⟩ => ⟨e, s, (Out.bind o).imp (fun p hp => ?_) fun _ _ z => z.xo⟩
  intro v H1 x1 s1 i1
  exact hp v H1 s1.se (i1.mono fun _ z => .inl z) fun z => by rw [hn] at z; cases z
def retN : MS := fun e => .ok (.rt .non, e)
theorem js_retN (hn : C.nw = false := by rfl) : PS X (.Return none pos) (tS C retN) := PS.imp ps_retN fun D σ H ⟨e, s, o⟩ => o .non H s.se rfl fun z => by rw [hn] at z; cases z
/-- slot 0 bears what may be changed of the caller's, if anything -/
def Free (C : Ct) (i : Nat) : Prop := C.par = none ∨ (0 ∈ C.own ∧ i ≠ 0)
theorem OwnD.isD {k : Kx} {H : Hp} {M M' : Addr → Prop} {d : D} {a : Addr} (h : OwnD k H M d a) (m : ∀ b, M' b → M b) (n : ¬ M' a) : IsD k H M' d (.ref a) := by
  cases d with
  | lst ds =>
    obtain ⟨vs, h1, h2⟩ := h
    exact ⟨a, vs, rfl, h1, n, h2.mono m⟩
  | dct ks ds =>
    obtain ⟨kvs, h1, h2, h3⟩ := h
    exact ⟨a, kvs, rfl, h1, n, h2, h3.mono m⟩
  | _ => exact h.elim
theorem SR.fresh0 {e : Lc} {σ : L2.St} {H : Hp} (s : SR C e σ H) {i : Nat} {a : Addr} (hi : i ∈ C.own) (hf : Free C i) (h : σ[i]? = some (some (.ref a))) : ¬ C.M a := by
  rcases s.nm i a hi h with z | z
  · exact z
  · rcases hf with hf | ⟨h0, hf⟩
    · rw [hf] at z
      cases z
    · exact absurd (s.dist i 0 a hi h0 h (s.p0 a z)) hf
/-- return of a list or dict that the def made -/
theorem js_retO {i : Nat} {x : Str} {px : Pos} (hi : i ∈ C.own) (hf : Free C i) (hN : X.N[i]? = some x) (hv : Vis X.env.scope x) (hn : C.nw = false := by rfl) (hd : (x == ("__debug__" : Str)) = false := by decide) (hcd : (x == ("__classdict__" : Str)) = false := by decide) : PS X (.Return (some (.Name x px)) pos) (tS C (retS (vr i))) := by
  refine PS.imp (ps_ret (pe_var hN hv hd hcd)) fun D σ H ⟨e, s, o⟩ => ?_
  unfold retS vr at o
  split at o
  · rename_i d he
    obtain ⟨a, h1, h2⟩ := s.ow i d hi he
    refine ⟨.ref a, h1, ?_⟩
    exact o (.ref a) H s.se (h2.isD (fun b z => .inl z) (s.fresh0 hi hf h1)) fun z => by rw [hn] at z; cases z
  · exact o.elim
def retL (i : Nat) : MS := fun e => match e[i]? with
  | some (some (.lst ds)) => .ok (.rt (.lst ds), e)
  | _ => .bad
theorem js_retL {i : Nat} {x : Str} {px : Pos} (hi : i ∈ C.own) (hf : Free C i) (hN : X.N[i]? = some x) (hv : Vis X.env.scope x) (hd : (x == ("__debug__" : Str)) = false := by decide) (hcd : (x == ("__classdict__" : Str)) = false := by decide) : PS X (.Return (some (.Name x px)) pos) (tS C (retL i)) := by
  refine PS.imp (ps_ret (pe_var hN hv hd hcd)) fun D σ H ⟨e, s, o⟩ => ?_
  unfold retL at o
  split at o
  · rename_i ds he
    obtain ⟨a, h1, h2⟩ := s.ow i _ hi he
    refine ⟨.ref a, h1, ?_⟩
    refine o (.ref a) H s.se (h2.isD (fun b z => .inl z) (s.fresh0 hi hf h1)) fun _ => ?_
    have hne : ∀ b, C.par = some b → b ≠ a := fun b hb z => by
      rcases hf with hf | ⟨h0, hf⟩
      · rw [hf] at hb
        cases hb
      · exact hf (s.dist i 0 a hi h0 h1 (by rw [← z]; exact s.p0 b hb))
    have h0a : C.H0 a = none := (s.fr i a hi h1).elim id fun z => absurd rfl (hne a z)
    have hmo : MO C σ a := .inr ⟨i, hi, h1⟩
    obtain ⟨vs, h3, h4⟩ := h2
    exact ⟨ds, a, vs, rfl, rfl, h0a, h3, IsDs.era h3 (fun z => z) hmo (fun b z => .inl z) _ _ h4, fun b hb d0 he0 hz0 => by
      obtain ⟨b', h5, h6⟩ := s.ow 0 d0 hz0 he0
      rw [s.p0 b hb] at h5
      cases h5
      exact OwnD.era h3 (fun z => z) hmo (fun b z => .inl z) h6 (hne _ hb)⟩
  · exact o.elim
def ifS (t : MD Bool) (f g : MS) : MS := fun e => (t e).bind fun p => match p.1 with
  | true => f p.2
  | false => g p.2
theorem js_if {ba bb : List Stmt} {t : MD Bool} (hc : PT X c (tT C t)) (ha : PSs X ba (tS C f)) (hb : PSs X bb (tS C g)) : PS X (.If c ba bb pos) (tS C (ifS t f g)) := by
  refine PS.imp (ps_if hc ha hb) fun D σ H ⟨e, s, o⟩ => ⟨e, s, (Out.bind o).imp (fun p hp => ?_) fun _ _ z => z.xo⟩
  obtain ⟨d, e1⟩ := p
  intro H1 x1 s1
  cases d with
  | true => exact iteT ⟨e1, s1, OS.step hp (Stp.of x1)⟩
  | false => exact iteF ⟨e1, s1, OS.step hp (Stp.of x1)⟩

/-- from here on the list at i is data only -/
def Ct.frz (C : Ct) (i : Nat) : Ct := { C with own := C.own.filter (· != i) }
theorem frz_mem {i j : Nat} (h : j ∈ (C.frz i).own) : j ∈ C.own ∧ j ≠ i := by
  have h2 : j ∈ C.own.filter (· != i) := h
  rw [List.mem_filter] at h2
  exact ⟨h2.1, by simpa using h2.2⟩
theorem SR.frz {e : Lc} {σ : L2.St} {H : Hp} (s : SR C e σ H) {i : Nat} (hi : i ∈ C.own) (hf : Free C i) : SR (C.frz i) e σ H := by
  have mo : ∀ a, MO (C.frz i) σ a → MO C σ a := fun a z => z.imp id fun ⟨j, hj, y⟩ => ⟨j, (frz_mem hj).1, y⟩
  refine ⟨s.len, fun j d hj he => ?_, fun j d hj he => ?_, fun j k a hj hk => s.dist j k a (frz_mem hj).1 (frz_mem hk).1, fun j a hj => s.fr j a (frz_mem hj).1, s.ext, s.al, fun j a hj => s.nm j a (frz_mem hj).1, fun j a hj => s.alo j a (frz_mem hj).1, s.p0, s.pm⟩
  · by_cases hji : j = i
    · subst hji
      obtain ⟨a, h1, h2⟩ := s.ow j d hi he
      refine ⟨.ref a, h1, h2.isD mo fun z => ?_⟩
      rcases z with z | ⟨k, hk, y⟩
      · exact s.fresh0 hi hf h1 z
      · obtain ⟨k1, k2⟩ := frz_mem hk
        exact k2 (s.dist k j a k1 hi y h1)
    · have hjo : j ∉ C.own := fun z => hj (by
        show j ∈ C.own.filter (· != i)
        rw [List.mem_filter]
        exact ⟨z, by simpa using hji⟩)
      obtain ⟨v, h1, h2⟩ := s.val j d hjo he
      exact ⟨v, h1, h2.mono mo⟩
  · obtain ⟨a, h1, h2⟩ := s.ow j d (frz_mem hj).1 he
    exact ⟨a, h1, OwnD.step (Ext.refl _ _) (fun b z => .inl (mo b z)) h2 fun _ z => z⟩
def frzS (f : MS) : MS := fun e => match f e with
  | .ok (.rt d, e') => .ok (.rt d, e')
  | _ => .bad
theorem js_frz {i : Nat} (hi : i ∈ C.own) (hf : Free C i) (h : PSs X sts (tS (C.frz i) f)) : PSs X sts (tS C (frzS f)) := by
  refine PSs.imp h fun D σ H ⟨e, s, o⟩ => ⟨e, s.frz hi hf, ?_⟩
  unfold frzS at o
  have h0 : 0 ∈ (C.frz i).own → 0 ∈ C.own := fun z => (frz_mem z).1
  split at o
  · rename_i d e' he
    rw [he]
    intro v H' se iv nn
    refine o v H' ⟨se.ext, fun a ha d0 hd0 hz0 => se.own0 a ha d0 hd0 ?_⟩ iv fun z => ?_
    · show 0 ∈ C.own.filter (· != i)
      rw [List.mem_filter]
      refine ⟨hz0, ?_⟩
      rcases hf with hf | ⟨_, hf⟩
      · rw [hf] at ha
        cases ha
      · simpa using hf.symm
    · obtain ⟨ds, q, vs, h1, h2, h3, h4, h5, h6⟩ := nn z
      refine ⟨ds, q, vs, h1, h2, h3, h4, h5, fun a ha d0 hd0 hz0 => h6 a ha d0 hd0 ?_⟩
      show 0 ∈ C.own.filter (· != i)
      rw [List.mem_filter]
      refine ⟨hz0, ?_⟩
      rcases hf with hf | ⟨_, hf⟩
      · rw [hf] at ha
        cases ha
      · simpa using hf.symm
  · exact o.elim

/-! ### stores -/
theorem MO_set {σ : L2.St} {i : Nat} {x : Option V} (hi : i ∉ C.own) : MO C (σ.set i x) = MO C σ := by
  funext a
  refine propext ⟨fun h => ?_, fun h => ?_⟩
  · rcases h with h | ⟨j, hj, h⟩
    · exact .inl h
    · refine .inr ⟨j, hj, ?_⟩
      rw [List.getElem?_set_ne (fun z => hi (by rw [z]; exact hj))] at h
      exact h
  · rcases h with h | ⟨j, hj, h⟩
    · exact .inl h
    · refine .inr ⟨j, hj, ?_⟩
      rw [List.getElem?_set_ne (fun z => hi (by rw [z]; exact hj))]
      exact h
theorem OW_set {σ : L2.St} {i : Nat} {x : Option V} {a : Addr} (hi : i ∉ C.own) (h : OW C (σ.set i x) a) : OW C σ a := by
  obtain ⟨j, hj, h⟩ := h
  refine ⟨j, hj, ?_⟩
  rw [List.getElem?_set_ne (fun z => hi (by rw [z]; exact hj))] at h
  exact h
theorem get_set_own {σ : L2.St} {i j : Nat} {x : Option V} (hi : i ∉ C.own) (hj : j ∈ C.own) : (σ.set i x)[j]? = σ[j]? := List.getElem?_set_ne fun z => hi (by rw [z]; exact hj)
theorem Free.zero {i : Nat} (hf : Free C i) {σ : L2.St} {x : Option V} {a : Addr} (h : C.par = some a) (p : σ[0]? = some (some (.ref a))) : (σ.set i x)[0]? = some (some (.ref a)) := by
  rcases hf with hf | ⟨_, hf⟩
  · rw [hf] at h
    cases h
  · rw [List.getElem?_set_ne hf]
    exact p
/-- a plain name is stored -/
theorem SR.set {e : Lc} {σ : L2.St} {H : Hp} (s : SR C e σ H) {i : Nat} (hi : i ∉ C.own) (hf : Free C i) {d : D} {v : V} (iv : IsD C.k H (MO C σ) d v) : SR C (e.set i (some d)) (σ.set i (some v)) H := by
  have hm : MO C (σ.set i (some v)) = MO C σ := MO_set hi
  refine ⟨by rw [List.length_set, List.length_set]; exact s.len, fun j d' hj he => ?_, fun j d' hj he => ?_, fun j k a hj hk h1 h2 => ?_, fun j a hj h => ?_, s.ext, s.al, fun j a hj h => ?_, fun j a hj h => ?_, fun a h => hf.zero h (s.p0 a h), s.pm⟩
  · rw [hm]
    by_cases hji : i = j
    · subst hji
      have hl : i < e.length := by
        have := (List.getElem?_eq_some_iff.mp he).1
        rwa [List.length_set] at this
      rw [List.getElem?_set_self hl] at he
      cases he
      exact ⟨v, List.getElem?_set_self (by rw [← s.len]; exact hl), iv⟩
    · rw [List.getElem?_set_ne hji] at he ⊢
      exact s.val j d' hj he
  · rw [hm]
    have hji : i ≠ j := fun z => hi (by rw [z]; exact hj)
    rw [List.getElem?_set_ne hji] at he ⊢
    exact s.ow j d' hj he
  · rw [get_set_own hi hj] at h1
    rw [get_set_own hi hk] at h2
    exact s.dist j k a hj hk h1 h2
  · rw [get_set_own hi hj] at h
    exact s.fr j a hj h
  · rw [get_set_own hi hj] at h
    exact s.nm j a hj h
  · rw [get_set_own hi hj] at h
    exact s.alo j a hj h
theorem Stp.set {σ : L2.St} {H H' : Hp} {i : Nat} {x : Option V} (hi : i ∉ C.own) (h : Ext (OW C σ) H H') : Stp C σ H (σ.set i x) H' := ⟨h, fun a z => .inl (OW_set hi z)⟩
/-- a name of one's own gets a new list -/
theorem SR.setO {e : Lc} {σ : L2.St} {H : Hp} (s : SR C e σ H) {i : Nat} (hi : i ∈ C.own) (hf : Free C i) {p : Addr} {o : HO} {d : D} (hp : H p = none) (nr : OwnD C.k (upd H p o) (fun a => MO C σ a ∨ a = p) d p) :
    SR C (e.set i (some d)) (σ.set i (some (.ref p))) (upd H p o) ∧ Stp C σ H (σ.set i (some (.ref p))) (upd H p o) := by
  have hx : Ext (OW C σ) H (upd H p o) := Ext.upd hp
  have hm : ∀ a, MO C (σ.set i (some (.ref p))) a → MO C σ a ∨ a = p := fun a z => by
    rcases z with z | ⟨j, hj, z⟩
    · exact .inl (.inl z)
    · by_cases hji : i = j
      · subst hji
        have hl : i < σ.length := by
          have := (List.getElem?_eq_some_iff.mp z).1
          rwa [List.length_set] at this
        rw [List.getElem?_set_self hl] at z
        cases z
        exact .inr rfl
      · rw [List.getElem?_set_ne hji] at z
        exact .inl (.inr ⟨j, hj, z⟩)
  have hm2 : ∀ a, MO C (σ.set i (some (.ref p))) a → MO C σ a ∨ H a = none := fun a z => (hm a z).imp id fun z => by rw [z]; exact hp
  have hm3 : ∀ a, OW C (σ.set i (some (.ref p))) a → OW C σ a ∨ H a = none := fun a z => by
    obtain ⟨j, hj, z⟩ := z
    by_cases hji : i = j
    · subst hji
      have hl : i < σ.length := by
        have := (List.getElem?_eq_some_iff.mp z).1
        rwa [List.length_set] at this
      rw [List.getElem?_set_self hl] at z
      cases z
      exact .inr hp
    · rw [List.getElem?_set_ne hji] at z
      exact .inl ⟨j, hj, z⟩
  have kp : ∀ a u, H a = some u → upd H p o a = some u := fun a u q => by
    rw [upd_ne (ne_of_none q hp)]
    exact q
  have pH0 : C.H0 p = none := by
    cases q : C.H0 p with
    | none => rfl
    | some u =>
      by_cases hq : C.par = some p
      · obtain ⟨u', h'⟩ := s.pm p hq
        rw [hp] at h'
        cases h'
      · have := s.ext p u q (.inl hq)
        rw [hp] at this
        cases this
  refine ⟨⟨by rw [List.length_set, List.length_set]; exact s.len, fun j d' hj he => ?_, fun j d' hj he => ?_, fun j k a hj hk h1 h2 => ?_, fun j a hj h => ?_, fun a u q n => kp _ _ (s.ext a u q n), fun a h => (s.al a h).imp fun u q => kp _ _ q, fun j a hj h => ?_, fun j a hj h => ?_, fun a h => hf.zero h (s.p0 a h), fun a h => ?_⟩, ⟨hx, hm3⟩⟩
  · have hji : i ≠ j := fun z => hj (by rw [← z]; exact hi)
    rw [List.getElem?_set_ne hji] at he ⊢
    obtain ⟨v, h1, h2⟩ := s.val j d' hj he
    exact ⟨v, h1, IsD.step hx.mo hm2 _ _ h2⟩
  · by_cases hji : i = j
    · subst hji
      have hl : i < e.length := by
        have := (List.getElem?_eq_some_iff.mp he).1
        rwa [List.length_set] at this
      rw [List.getElem?_set_self hl] at he
      cases he
      exact ⟨p, List.getElem?_set_self (by rw [← s.len]; exact hl), OwnD.step (Ext.refl _ _) (fun a z => .inl (hm a z)) nr fun _ q => q⟩
    · rw [List.getElem?_set_ne hji] at he ⊢
      obtain ⟨a, h1, h2⟩ := s.ow j d' hj he
      exact ⟨a, h1, OwnD.step hx.mo hm2 h2 (kp a)⟩
  · have old : ∀ {j : Nat}, j ∈ C.own → i ≠ j → (σ.set i (some (.ref p)))[j]? = some (some (.ref a)) → a ≠ p := fun {j} hj hji h z => by
      rw [List.getElem?_set_ne hji] at h
      obtain ⟨u, hu⟩ := s.alo j a hj h
      rw [z, hp] at hu
      cases hu
    have atp : ∀ {j : Nat}, i = j → (σ.set i (some (.ref p)))[j]? = some (some (.ref a)) → a = p := fun {j} hji h => by
      subst hji
      have hl : i < σ.length := by
        have := (List.getElem?_eq_some_iff.mp h).1
        rwa [List.length_set] at this
      rw [List.getElem?_set_self hl] at h
      cases h
      rfl
    by_cases e1 : i = j <;> by_cases e2 : i = k
    · exact e1.symm.trans e2
    · exact absurd (atp e1 h1) (old hk e2 h2)
    · exact absurd (atp e2 h2) (old hj e1 h1)
    · rw [List.getElem?_set_ne e1] at h1
      rw [List.getElem?_set_ne e2] at h2
      exact s.dist j k a hj hk h1 h2
  · by_cases hji : i = j
    · subst hji
      have hl : i < σ.length := by
        have := (List.getElem?_eq_some_iff.mp h).1
        rwa [List.length_set] at this
      rw [List.getElem?_set_self hl] at h
      cases h
      exact .inl pH0
    · rw [List.getElem?_set_ne hji] at h
      exact s.fr j a hj h
  · by_cases hji : i = j
    · subst hji
      have hl : i < σ.length := by
        have := (List.getElem?_eq_some_iff.mp h).1
        rwa [List.length_set] at this
      rw [List.getElem?_set_self hl] at h
      cases h
      refine .inl fun z => ?_
      obtain ⟨u, hu⟩ := s.al p z
      rw [hp] at hu
      cases hu
    · rw [List.getElem?_set_ne hji] at h
      exact s.nm j a hj h
  · by_cases hji : i = j
    · subst hji
      have hl : i < σ.length := by
        have := (List.getElem?_eq_some_iff.mp h).1
        rwa [List.length_set] at this
      rw [List.getElem?_set_self hl] at h
      cases h
      exact ⟨o, upd_same⟩
    · rw [List.getElem?_set_ne hji] at h
      obtain ⟨u, hu⟩ := s.alo j a hj h
      exact ⟨u, kp a u hu⟩
  · obtain ⟨u, hu⟩ := s.pm a h
    exact ⟨u, kp a u hu⟩
/-- a list or dict of one's own is changed -/
theorem SR.write {e : Lc} {σ : L2.St} {H : Hp} (s : SR C e σ H) {i : Nat} (hi : i ∈ C.own) {a : Addr} (ha : σ[i]? = some (some (.ref a))) {o o' : HO} (hH : H a = some o) (hx : ¬ Fx o) {d : D} (od : OwnD C.k (upd H a o') (MO C σ) d a) :
    SR C (e.set i (some d)) σ (upd H a o') ∧ Ext (OW C σ) H (upd H a o') := by
  have hma : OW C σ a := ⟨i, hi, ha⟩
  have x : Ext (OW C σ) H (upd H a o') := fun b u q n => by
    have hb : b ≠ a := fun z => by
      subst z
      rcases n with n | n
      · exact n hma
      · rw [hH] at q
        cases q
        exact hx n
    rw [upd_ne hb]
    exact q
  have kp : ∀ b u, H b = some u → ∃ u', upd H a o' b = some u' := fun b u q => by
    by_cases hb : b = a
    · subst hb
      exact ⟨_, upd_same⟩
    · exact ⟨u, by rw [upd_ne hb]; exact q⟩
  have kn : ∀ b u, b ≠ a → H b = some u → upd H a o' b = some u := fun b u hb q => by rw [upd_ne hb]; exact q
  refine ⟨⟨by rw [List.length_set]; exact s.len, fun j d' hj he => ?_, fun j d' hj he => ?_, s.dist, s.fr, fun b u q n => ?_, fun b h => (s.al b h).elim fun u q => kp b u q, s.nm, fun j b hj h => ?_, s.p0, fun b h => ?_⟩, x⟩
  · have hji : i ≠ j := fun z => hj (by rw [← z]; exact hi)
    rw [List.getElem?_set_ne hji] at he
    obtain ⟨v, h1, h2⟩ := s.val j d' hj he
    exact ⟨v, h1, IsD.step x.mo (fun _ z => .inl z) _ _ h2⟩
  · by_cases hji : i = j
    · subst hji
      have hl : i < e.length := by
        have := (List.getElem?_eq_some_iff.mp he).1
        rwa [List.length_set] at this
      rw [List.getElem?_set_self hl] at he
      cases he
      exact ⟨a, ha, od⟩
    · rw [List.getElem?_set_ne hji] at he
      obtain ⟨b, h1, h2⟩ := s.ow j d' hj he
      have hb : b ≠ a := fun z => hji (s.dist i j a hi hj ha (by rw [← z]; exact h1))
      exact ⟨b, h1, OwnD.step x.mo (fun _ z => .inl z) h2 fun u q => kn b u hb q⟩
  · refine kn b u ?_ (s.ext b u q n)
    intro z
    subst z
    have h1 := s.ext b u q n
    rw [hH] at h1
    cases h1
    rcases n with n | n
    · rcases s.fr i b hi ha with f | f
      · rw [f] at q
        cases q
      · exact n f
    · exact hx n
  · obtain ⟨u, hu⟩ := s.alo j b hj h
    exact kp b u hu
  · obtain ⟨u, hu⟩ := s.pm b h
    exact kp b u hu
end
end Dn

namespace Dn
open PySem PySem.Spec PyProof.Rows L2

/-! ### targets -/
abbrev GD := D → Lc → R Lc
def POg (C : Ct) (σ : L2.St) (H : Hp) (Q : L2.St → Hp → Prop) : Lc → Prop := fun e' => ∀ σ' H', Stp C σ H σ' H' → SR C e' σ' H' → Q σ' H'
def tG (C : Ct) (g : GD) : TG := fun v σ H Q => ∃ e d, SR C e σ H ∧ IsD C.k H (MO C σ) d v ∧ Out (POg C σ H Q) (fun _ _ => False) (g d e)
def tGs (C : Ct) (g : List D → Lc → R Lc) : TGs := fun vs σ H Q => ∃ e ds, SR C e σ H ∧ IsDs C.k H (MO C σ) ds vs ∧ Out (POg C σ H Q) (fun _ _ => False) (g ds e)
def nmG (i : Nat) : GD := fun d e => .ok (e.set i (some d))
def nilG : List D → Lc → R Lc := fun ds e => match ds with
  | [] => .ok e
  | _ => .bad
def consG (g : GD) (h : List D → Lc → R Lc) : List D → Lc → R Lc := fun ds e => match ds with
  | d :: r => (g d e).bind fun e' => h r e'
  | [] => .bad
def tupG (n : Nat) (h : List D → Lc → R Lc) : GD := fun d e => match d with
  | .tup ds => if ds.length = n then h ds e else .bad
  | .lst ds => if ds.length = n then h ds e else .bad
  | _ => .bad
section
variable {X : Cx} {C : Ct} {pos : Pos}
theorem PG.imp {a : Expr} {t t' : TG} (h : PG X a t) (i : ∀ v σ H Q, t' v σ H Q → t v σ H Q) : PG X a t' := ⟨fun pins s σ H v u Q I r hw => h.run pins s σ H v u Q I r (i v σ H Q hw)⟩
theorem PGs.imp {a : List Expr} {t t' : TGs} (h : PGs X a t) (i : ∀ v σ H Q, t' v σ H Q → t v σ H Q) : PGs X a t' := ⟨fun pins s σ H v u Q I r hw => h.run pins s σ H v u Q I r (i v σ H Q hw)⟩
theorem PG.or {a : Expr} {t t' : TG} (h : PG X a t) (h' : PG X a t') : PG X a (fun v σ H Q => t v σ H Q ∨ t' v σ H Q) := ⟨fun pins s σ H v u Q I r hw => hw.elim (h.run pins s σ H v u Q I r) (h'.run pins s σ H v u Q I r)⟩
theorem jg_name {i : Nat} {x : Str} (ho : i ∉ C.own) (hf : Free C i) (hN : X.N.Nodup) (hi : X.N[i]? = some x) (hx : Loc X.env.scope x) (hfn : X.fn x = true ∨ X.env.scope.names.lookup x = some .local) : PG X (.Name x pos) (tG C (nmG i)) := by
  refine PG.imp (pg_name hN hi hx hfn) fun v σ H Q ⟨e, d, s, iv, o⟩ => ?_
  exact o _ _ (Stp.set ho (Ext.refl _ _)) (s.set ho hf iv)
theorem jgs_nil : PGs X [] (tGs C nilG) := by
  refine PGs.imp pgs_nil fun v σ H Q ⟨e, ds, s, iv, o⟩ => ?_
  cases ds with
  | nil => exact ⟨iv, o σ H Stp.refl s⟩
  | cons d r => exact o.elim
theorem jgs_cons {a : Expr} {es : List Expr} {g : GD} {h : List D → Lc → R Lc} (h1 : PG X a (tG C g)) (h2 : PGs X es (tGs C h)) (hs : (assignEach (a :: es) X.env).map (·.2) = assign a X.env :: (assignEach es X.env).map (·.2) := by rfl) : PGs X (a :: es) (tGs C (consG g h)) := by
  refine PGs.imp (pgs_cons h1 h2 hs) fun v σ H Q ⟨e, ds, s, iv, o⟩ => ?_
  cases ds with
  | nil => exact o.elim
  | cons d r =>
    obtain ⟨v1, vr, e1, i1, i2⟩ := iv
    refine ⟨v1, vr, e1, e, d, s, i1, (Out.bind o).imp (fun e' he => ?_) fun _ _ z => z⟩
    intro σ1 H1 x1 s1
    exact ⟨e', r, s1, x1.isDs i2, he.imp (fun e2 h3 σ2 H2 x2 s2 => h3 σ2 H2 (x1.trans x2) s2) fun _ _ z => z⟩
theorem jg_tup {es : List Expr} {kk : Nat} {h : List D → Lc → R Lc} {n : Nat} (hK : C.k.K = X.K) (hc : X.calm = true) (hg : PGs X es (tGs C h)) (hn : (assignEach es X.env).length = n := by rfl) (hst : (assignEach es X.env).findIdx? (·.1) = none := by rfl) : PG X (.Tuple es kk pos) (tG C (tupG n h)) := by
  refine PG.imp (PG.or (pg_tup hc hg hn hst) (pg_lst hc hg hn hst)) fun v σ H Q ⟨e, d, s, iv, o⟩ => ?_
  rw [← hK]
  unfold tupG at o
  split at o
  · split at o
    · rename_i ds hl
      obtain ⟨a, vs, rfl, h1, h2⟩ := iv
      exact .inl ⟨a, vs, rfl, h1, h2.length.trans hl, e, ds, s, h2, o⟩
    · exact o.elim
  · split at o
    · rename_i ds hl
      obtain ⟨a, vs, rfl, h1, _, h2⟩ := iv
      exact .inr ⟨a, vs, rfl, .inl (.inl h1), h2.length.trans hl, e, ds, s, h2, o⟩
    · exact o.elim
  · exact o.elim
/-- target = value -/
def asgS (f : MD D) (g : GD) : MS := fun e => (f e).bind fun p => (g p.1 p.2).bind fun e' => .ok (.nx, e')
theorem js_asg {tg a : Expr} {f : MD D} {g : GD} (he : PE X a (tE C f)) (hg : PG X tg (tG C g)) (nx : ∀ d e y l, g d e ≠ .exc y l) (hs : swapsWithSole [tg] a pos.line X.env = pure false := by rfl) (hw : swappedStores [tg] a X.env = pure none := by rfl)
    (h1 : (assignEach [tg] X.env).map (·.2) = [assign tg X.env] := by rfl) : PS X (.Assign [tg] a pos) (tS C (asgS f g)) := by
  refine PS.imp (ps_asg he hg hs hw h1) fun D σ H ⟨e, s, o⟩ => ⟨e, s, (Out.bind o).imp (fun p hp => ?_) fun _ _ z => z.xo⟩
  intro v H1 x1 s1 i1
  refine ⟨p.2, p.1, s1, i1, ?_⟩
  cases e0 : g p.1 p.2 with
  | ok e' =>
    rw [e0] at hp
    intro σ2 H2 x2 s2
    exact hp σ2 H2 ((Stp.of x1).trans x2) s2
  | exc y l => exact absurd e0 (nx _ _ _ _)
  | bad =>
    rw [e0] at hp
    exact hp.elim
/-- name = value -/
def setS (i : Nat) (f : MD D) : MS := fun e => (f e).bind fun p => .ok (.nx, p.2.set i (some p.1))
theorem js_set {i : Nat} {x : Str} {a : Expr} {px : Pos} {f : MD D} (ho : i ∉ C.own) (hf : Free C i) (hN : X.N.Nodup) (hi : X.N[i]? = some x) (hx : Loc X.env.scope x) (hfn : X.fn x = true ∨ X.env.scope.names.lookup x = some .local) (he : PE X a (tE C f)) (hs : swapsWith a (some (.Name x px)) pos.line X.env = pure false := by rfl) :
    PS X (.Assign [.Name x px] a pos) (tS C (setS i f)) := by
  refine PS.imp (ps_set hN hi hx he hs hfn) fun D σ H ⟨e, s, o⟩ => ⟨e, s, (Out.bind o).imp (fun p hp => ?_) fun _ _ z => z.xo⟩
  intro v H1 x1 s1 i1
  exact hp _ _ (Stp.set ho x1) (s1.set ho hf i1)

/-! ### expressions that make a new list -/
def PF (C : Ct) (σ : L2.St) (H : Hp) (Q : VK) : List D × Lc → Prop := fun p => ∀ vs H' q, Ext (OW C σ) H H' → SR C p.2 σ H' → IsDs C.k H' (MO C σ) p.1 vs → H' q = none → Q (.ref q) (upd H' q (.lst vs))
def tF (C : Ct) (f : MD (List D)) : TE := fun σ H Q => ∃ e, SR C e σ H ∧ Out (PF C σ H Q) (XO C σ H) (f e)
def asL (f : MD (List D)) : MD D := fun e => (f e).bind fun p => .ok (.lst p.1, p.2)
theorem je_of {a : Expr} {f : MD (List D)} (h : PE X a (tF C f)) : PE X a (tE C (asL f)) := by
  refine PE.imp h fun σ H Q ⟨e, s, o⟩ => ⟨e, s, (Out.bind o).imp (fun p hp => ?_) fun _ _ z => z⟩
  intro vs H1 q x1 s1 i1 hq
  exact hp (.ref q) _ (x1.trans (Ext.upd hq)) (s1.grow hq) (IsD.newL s1 hq i1)
def szA (f : MD (List D)) : MD (List D) := fun e => (f e).bind fun p => if p.1.length ≤ sizeLine then .ok p else .bad
theorem jf_lst {es : List Expr} {fa : MD (List D)} (h : PA X es (tA C fa)) : PE X (.List es pos) (tF C (szA fa)) := by
  refine PE.imp (pe_lst h) fun σ H Q ⟨e, s, o⟩ => ⟨e, s, (Out.bind o).imp (fun p hp => ?_) fun _ _ z => z⟩
  intro vs H1 x1 s1 i1
  by_cases hz : p.1.length ≤ sizeLine
  · rw [if_pos hz] at hp
    have hz' : vs.length ≤ sizeLine := by rw [i1.length]; exact hz
    exact ⟨hz', fun q hq => hp vs H1 q x1 s1 i1 hq⟩
  · rw [if_neg hz] at hp
    exact hp.elim
/-- name = a new list, the name one's own -/
def setO (i : Nat) (f : MD (List D)) : MS := fun e => (f e).bind fun p => .ok (.nx, p.2.set i (some (.lst p.1)))
theorem OwnD.new {σ : L2.St} {e : Lc} {H : Hp} {p : Addr} {ds : List D} {vs : List V} (s : SR C e σ H) (hp : H p = none) (i : IsDs C.k H (MO C σ) ds vs) : OwnD C.k (upd H p (.lst vs)) (fun a => MO C σ a ∨ a = p) (.lst ds) p :=
  ⟨vs, upd_same, IsDs.step (Ext.upd hp) (fun a z => z.imp id fun z => by rw [z]; exact hp) _ _ i⟩
theorem js_setO {i : Nat} {x : Str} {a : Expr} {px : Pos} {f : MD (List D)} (ho : i ∈ C.own) (hf : Free C i) (hN : X.N.Nodup) (hi : X.N[i]? = some x) (hx : Loc X.env.scope x) (hfn : X.fn x = true ∨ X.env.scope.names.lookup x = some .local) (he : PE X a (tF C f)) (hs : swapsWith a (some (.Name x px)) pos.line X.env = pure false := by rfl) :
    PS X (.Assign [.Name x px] a pos) (tS C (setO i f)) := by
  refine PS.imp (ps_set hN hi hx he hs hfn) fun D σ H ⟨e, s, o⟩ => ⟨e, s, (Out.bind o).imp (fun p hp => ?_) fun _ _ z => z.xo⟩
  intro vs H1 q x1 s1 i1 hq
  obtain ⟨s2, x2⟩ := s1.setO ho hf hq (OwnD.new s1 hq i1)
  exact hp _ _ ((Stp.of x1).trans x2) s2

/-- return of a new list -/
def retF (f : MD (List D)) : MS := fun e => (f e).bind fun p => .ok (.rt (.lst p.1), p.2)
theorem js_retF {a : Expr} {f : MD (List D)} (he : PE X a (tF C f)) : PS X (.Return (some a) pos) (tS C (retF f)) := by
  refine PS.imp (ps_ret he) fun D σ H ⟨e, s, o⟩ => ⟨e, s, (Out.bind o).imp (fun p hp => ?_) fun _ _ z => z.xo⟩
  intro vs H1 q x1 s1 i1 hq
  have s2 : SR C p.2 σ (upd H1 q (.lst vs)) := s1.grow hq
  have nq : ∀ o, C.H0 q = some o → False := fun o z => by
    by_cases hp : C.par = some q
    · obtain ⟨o', h'⟩ := s1.pm q hp
      rw [hq] at h'
      cases h'
    · have := s1.ext q o z (.inl hp)
      rw [hq] at this
      cases this
  have n0 : C.H0 q = none := by
    cases z : C.H0 q with
    | none => rfl
    | some o => exact (nq o z).elim
  refine hp (.ref q) _ s2.se ((IsD.newL s1 hq i1).mono fun _ z => .inl z) fun _ => ?_
  refine ⟨p.1, q, vs, rfl, rfl, n0, upd_same, by rw [era_new hq]; exact i1.mono fun _ z => .inl z, fun b hb d0 he0 hz0 => ?_⟩
  rw [era_new hq]
  obtain ⟨b', h5, h6⟩ := s1.ow 0 d0 hz0 he0
  rw [s1.p0 b hb] at h5
  cases h5
  exact OwnD.step (Ext.refl _ _) (fun b z => .inl (.inl z)) h6 fun _ z => z

/-! ### a list of one's own, read and changed -/
/-- what a list of one's own is for: read at its slot, the list as it stands -/
def PRd (C : Ct) (i : Nat) (t : TE) : Prop := ∀ e σ H Q, SR C e σ H → (∀ a d, e[i]? = some (some d) → σ[i]? = some (some (.ref a)) → OwnD C.k H (MO C σ) d a → Q (.ref a) H) → t σ H Q
/-- x.append(e) -/
def appS (i : Nat) (f : MD D) : MS := fun e => (f e).bind fun p => match p.2[i]? with
  | some (some (.lst ds)) => if ds.length < sizeLine then .ok (.nx, p.2.set i (some (.lst (ds ++ [p.1])))) else .bad
  | _ => .bad
/-- before anything is reckoned the slot holds a list -/
def isL (i : Nat) (f : MS) : MS := fun e => match e[i]? with
  | some (some (.lst _)) => f e
  | _ => .bad
theorem own_lst {e : Lc} {σ : L2.St} {H : Hp} {i : Nat} {ds : List D} (s : SR C e σ H) (hi : i ∈ C.own) (he : e[i]? = some (some (.lst ds))) : ∃ a vs, σ[i]? = some (some (.ref a)) ∧ H a = some (.lst vs) ∧ IsDs C.k H (MO C σ) ds vs := by
  obtain ⟨a, h1, vs, h2, h3⟩ := s.ow i _ hi he
  exact ⟨a, vs, h1, h2, h3⟩
theorem SR.wlst {e : Lc} {σ : L2.St} {H : Hp} (s : SR C e σ H) {i : Nat} (hi : i ∈ C.own) {a : Addr} {vs ws : List V} {es : List D} (ha : σ[i]? = some (some (.ref a))) (hH : H a = some (.lst vs)) (h : IsDs C.k H (MO C σ) es ws) :
    SR C (e.set i (some (.lst es))) σ (upd H a (.lst ws)) ∧ Ext (OW C σ) H (upd H a (.lst ws)) := by
  have hma : OW C σ a := ⟨i, hi, ha⟩
  have x : Ext (OW C σ) H (upd H a (.lst ws)) := fun b u q n => by
    have hb : b ≠ a := fun z => by
      subst z
      rcases n with n | n
      · exact n hma
      · rw [hH] at q
        cases q
        exact n
    rw [upd_ne hb]
    exact q
  exact s.write hi ha hH (fun z => z) ⟨ws, upd_same, IsDs.step x.mo (fun _ z => .inl z) _ _ h⟩
theorem js_app {i : Nat} {x : Str} {a : Expr} {px ap cp : Pos} {f : MD D} (hK : C.k.K = X.K) (ho : i ∈ C.own) (hN : X.N[i]? = some x) (hv : Vis X.env.scope x) (he : PE X a (tE C f)) (hd : (x == ("__debug__" : Str)) = false := by decide) (hcd : (x == ("__classdict__" : Str)) = false := by decide)
    (hbase : attributeBase (.Name x px) "append" X.env (eval (.Name x px) X.env) = eval (.Name x px) X.env := by rfl)
    (hfew : ((backTo cp (starEach [a] X.env)).all (fun x => !x.1) && (backToKw cp (keywordEach [] X.env)).all (fun x => x.1.isSome)
      && decide ([a].length + ([] : List Keyword).length + (if ([] : List Keyword).isEmpty then 0 else 1) < 30)) = true := by rfl)
    (hline : (ap.endLine == cp.line) = true := by rfl) (hs : starEach [a] X.env = (false, eval a X.env) :: starEach [] X.env := by rfl) (hplain : (backTo cp (starEach [] X.env)).any (·.1) = false := by rfl)
    (hsw : swapsWith (.Call (.Attribute (.Name x px) "append" ap) [a] [] cp) none pos.line X.env = pure false := by rfl) :
    PS X (.Expr (.Call (.Attribute (.Name x px) "append" ap) [a] [] cp) pos) (tS C (isL i (appS i f))) := by
  refine PS.imp (ps_expr (pe_bm PySem.F.plainAttrs_list PySem.F.slot_list_append PySem.F.type_list_append mt_append (pe_var hN hv hd hcd) (pa_cons he pa_nil hs) hbase hfew hline hs hplain) hsw) fun D σ H ⟨e, s, o⟩ => ?_
  unfold isL at o
  split at o
  · rename_i ds0 h0
    obtain ⟨b, vs, h1, h2, h3⟩ := own_lst s ho h0
    refine ⟨.ref b, h1, .inl ⟨rfl, vs, .inl (.inl h2)⟩, e, s, (Out.bind o).imp (fun p hp => ?_) fun _ _ z => z.xo⟩
    intro v H1 x1 s1 i1
    split at hp
    · rename_i ds hds
      split at hp
      · rename_i hz
        obtain ⟨b', ws, h4, h5, h6⟩ := own_lst s1 ho hds
        have eb : b' = b := by
          rw [h1] at h4
          cases h4
          rfl
        subst eb
        obtain ⟨s2, x2⟩ := s1.wlst ho h1 h5 (h6.app (.cons i1 .nil))
        exact ⟨b', ws, v, rfl, rfl, h5, by rw [h6.length]; exact hz, hp σ _ (Stp.of (x1.trans x2)) s2⟩
      · exact hp.elim
    · exact hp.elim
  · exact o.elim
/-- x[k] = e, the list one's own: e first, then k -/
def subG (i : Nat) (f : MD D) : GD := fun d e => (f e).bind fun p => match p.1, p.2[i]? with
  | .int k, some (some (.lst ds)) => match ixN ds.length k with
    | some j => .ok (p.2.set i (some (.lst (ds.set j d))))
    | none => .bad
  | _, _ => .bad
def isLG (i : Nat) (g : GD) : GD := fun d e => match e[i]? with
  | some (some (.lst _)) => g d e
  | _ => .bad
theorem jg_sub {i : Nat} {x : Str} {a : Expr} {px : Pos} {f : MD D} (ho : i ∈ C.own) (hN : X.N[i]? = some x) (hv : Vis X.env.scope x) (he : PE X a (tE C f)) (hd : (x == ("__debug__" : Str)) = false := by decide) (hcd : (x == ("__classdict__" : Str)) = false := by decide)
    (ha : ∀ v, assign (.Subscript (.Name x px) a pos) X.env v = (do
      let ov ← holding [v] (eval (.Name x px) X.env)
      let iv ← holding [v, ov] (eval a X.env)
      standAt pos
      holding [v, ov, iv] (setItem ov iv v)
      release [v, ov, iv] []) := by intro _; rfl) : PG X (.Subscript (.Name x px) a pos) (tG C (isLG i (subG i f))) := by
  refine PG.imp (pg_sub (pe_var hN hv hd hcd) he set_list ha) fun v σ H Q ⟨e, d, s, iv, o⟩ => ?_
  unfold isLG at o
  split at o
  · rename_i ds0 h0
    obtain ⟨b, vs, h1, h2, h3⟩ := own_lst s ho h0
    refine ⟨.ref b, h1, e, s, (Out.bind o).imp (fun p hp => ?_) fun _ _ z => z.elim⟩
    intro w H1 x1 s1 i1
    obtain ⟨k, e1⟩ := p
    cases k with
    | int k =>
      cases i1
      dsimp only at hp s1
      split at hp
      · rename_i kk ds hk hds
        cases hk
        split at hp
        · rename_i j hj
          obtain ⟨b', ws, h4, h5, h6⟩ := own_lst s1 ho hds
          have eb : b' = b := by
            rw [h1] at h4
            cases h4
            rfl
          subst eb
          obtain ⟨s2, x2⟩ := s1.wlst ho h1 h5 (h6.set ((Stp.of x1).isD iv) j)
          exact ⟨b', ws, k, j, rfl, rfl, h5, by rw [h6.length]; exact hj, hp σ _ (Stp.of (x1.trans x2)) s2⟩
        · exact hp.elim
      · exact hp.elim
    | _ => exact hp.elim
  · exact o.elim
/-- x[j], x one's own -/
def oix (i : Nat) (f : MD D) : MD D := fun e => match e[i]? with
  | some (some (.lst _)) => (f e).bind fun p => match p.2[i]? with
    | some (some (.lst ds)) => (idxD (.lst ds) p.1).at p.2
    | _ => .bad
  | _ => .bad
theorem je_oix {i : Nat} {x : Str} {a : Expr} {px : Pos} {f : MD D} (hK : C.k.K = X.K) (ho : i ∈ C.own) (hN : X.N[i]? = some x) (hv : Vis X.env.scope x) (hs : PlainIx a) (he : PE X a (tE C f)) (hd : (x == ("__debug__" : Str)) = false := by decide) (hcd : (x == ("__classdict__" : Str)) = false := by decide) :
    PE X (.Subscript (.Name x px) a pos) (tE C (oix i f)) := by
  refine PE.imp (pe_ix ix_list (pe_var hN hv hd hcd) he hs) fun σ H Q ⟨e, s, o⟩ => ?_
  unfold oix at o
  split at o
  · rename_i ds0 h0
    obtain ⟨b, vs, h1, h2, h3⟩ := own_lst s ho h0
    refine ⟨.ref b, h1, e, s, (Out.bind o).imp (fun p hp => ?_) fun _ _ z => z⟩
    intro w H1 x1 s1 i1
    split at hp
    · rename_i ds hds
      obtain ⟨b', ws, h4, h5, h6⟩ := own_lst s1 ho hds
      have eb : b' = b := by
        rw [h1] at h4
        cases h4
        rfl
      subst eb
      obtain ⟨k, e1⟩ := p
      cases k with
      | int k =>
        cases i1
        unfold idxD at hp
        dsimp only at hp
        split at hp
        · rename_i d hdd
          obtain ⟨v, h7, h8⟩ := h6.atI hdd
          exact ⟨b', ws, k, v, rfl, rfl, .inl (.inl h5), h7, hp v H1 x1 s1 h8⟩
        · exact hp.elim
      | _ => exact hp.elim
    · exact hp.elim
  · exact o.elim
/-- len(x), x one's own -/
def olen (i : Nat) : MD D := fun e => match e[i]? with
  | some (some (.lst ds)) => .ok (.int ds.length, e)
  | some (some (.dct ks _)) => .ok (.int ks.length, e)
  | _ => .bad
theorem je_olen {i : Nat} {x y : Str} {px p : Pos} (ho : i ∈ C.own) (hN : X.N[i]? = some x) (hv : Vis X.env.scope x) (hg : Gl X "len") (hm : X.mg "len" = none) (hd : (x == ("__debug__" : Str)) = false := by decide) (hcd : (x == ("__classdict__" : Str)) = false := by decide)
    (he : starEach [(.Name x px : Expr)] X.env = (false, eval (.Name x px) X.env) :: starEach [] X.env := by rfl) (hpl : (backTo pos (starEach [] X.env)).any (·.1) = false := by rfl) :
    PE X (.Call (.Name "len" p) [.Name x px] [] pos) (tE C (olen i)) := by
  refine PE.imp (pe_callB call_lenX hg hm PySem.boot_len (pa_cons (pe_var hN hv hd hcd) pa_nil he) (by decide) (by decide) he hpl) fun σ H Q ⟨e, s, o⟩ => ?_
  unfold olen at o
  split at o
  · rename_i ds h0
    obtain ⟨b, vs, h1, h2, h3⟩ := own_lst s ho h0
    refine ⟨.ref b, h1, .inl ⟨_, _, rfl, .inl ⟨vs, .inl (.inl h2), h3.length.symm⟩, o _ H (Ext.refl _ _) s rfl⟩⟩
  · rename_i ks ds h0
    obtain ⟨b, h1, kvs, h2, h3, h4⟩ := s.ow i _ ho h0
    refine ⟨.ref b, h1, .inr ⟨b, kvs, rfl, h2, ?_⟩⟩
    have o' : OE C σ H Q (.ok (.int ks.length, e)) := o
    rw [← h3, List.length_map] at o'
    exact o' _ H (Ext.refl _ _) s rfl
  · exact o.elim
/-- a copy of a list of one's own: list(x), x[a:b], tuple(x), x + ..: read as data at once, the list itself let go -/
def ovr (i : Nat) : MD D := fun e => match e[i]? with
  | some (some (.lst ds)) => .ok (.lst ds, e)
  | _ => .bad
end
end Dn

/-! enumerate(tuple) -/
namespace Dn
open PySem PySem.Spec PyProof.Rows L2

theorem enumNew {v : Value} {o : Obj} {Hq : Heap → Prop} (B : Begins v o Hq) :
    Meets (Builtin.«enumerate.__new__» ⟨[.type "enumerate", v], []⟩) (fun _ Rr s => Hq s.heap ∧
      Rr (.ok (.ret (.ref (s.heap.push o).objs.size))) { s with heap := (s.heap.push o).push { cls := .type "enumerate", data := .fields #[.none, .bool false, .ref s.heap.objs.size, rawInt 0, .none, .none] } }) :=
  .of_wp fun prog w A Rr s hh => by
    obtain ⟨hp, gg, dd, tt, oo⟩ := s
    obtain ⟨hb, hr⟩ := hh
    have hsub := sub_enumerate
    have itq : ∀ {A' : Around} {E' : Value → Shared → Prop} {Q' : Value → Shared → Prop}, Q' (.ref hp.objs.size) ⟨hp.push o, gg, dd, tt, oo⟩ → wpAny (model prog w) A' (pyIter v) Q' E' ⟨hp, gg, dd, tt, oo⟩ :=
      fun z => B.iter prog w _ _ ⟨hp, gg, dd, tt, oo⟩ _ hb z
    wp_walk using itq
    refine wpAny_stack_any fun st => wpAny_pure ?_
    split
    · rename_i cc _ _ _ _ _
      cases (cc == Value.type "enumerate") <;> (wp_walk using itq; exact ⟨_, rfl, hr⟩)
    · wp_walk using itq
      exact ⟨_, rfl, hr⟩
section
variable {prog : Program} {w : World} {A : Around} {E : Value → Shared → Prop} {s : Shared}
theorem callEnumT {t : Addr} {items : Array Value} {Q : Value → Shared → Prop} (hT : s.heap.IsTuple t items)
    (k : ∀ h2, IsEnum h2 (s.heap.objs.size + 1) s.heap.objs.size 0 .none → h2.IsTupleIter s.heap.objs.size t 0 → (∀ b o, s.heap.get? b = some o → h2.get? b = some o) → Q (.ref (s.heap.objs.size + 1)) { s with heap := h2 }) :
    wpAny (model prog w) A (call (.type "enumerate") [.ref t]) Q E s := by
  refine callType_new F.called_enumerate (by decide) (F.typeCall_enumerate_1 _) (F.newCall_enumerate_1 _) (fun ob => F.args_object_init_2 ob _) F.entry_enumerate_new (enumNew (begins_tuple t items)) ⟨hT, ?_⟩
  generalize ho : ({ cls := .type "tuple_iterator", data := .fields #[.ref t, .int 0 0] } : Obj) = o
  have hz : (s.heap.push o).objs.size = s.heap.objs.size + 1 := Heap.size_push ..
  have fo : o.isFreed = false := by
    rw [← ho]
    rfl
  have g1 : (s.heap.push o).get? s.heap.objs.size = some o := Heap.get?_push_size _ fo
  generalize he : ({ cls := .type "enumerate", data := .fields #[.none, .bool false, .ref s.heap.objs.size, rawInt 0, .none, .none] } : Obj) = oe
  have g2 : ((s.heap.push o).push oe).get? (s.heap.push o).objs.size = some oe := Heap.get?_push_size _ (by
    rw [← he]
    rfl)
  rw [hz] at g2
  rw [hz]
  refine ⟨⟨_, g2, ?_⟩, k _ ?_ ⟨o, Heap.get?_push_of_some _ g1, ?_, ?_⟩ fun b u q => Heap.get?_push_of_some _ (Heap.get?_push_of_some _ q)⟩
  · rw [← he]
  · show ((s.heap.push o).push oe).get? (s.heap.objs.size + 1) = _
    rw [g2, ← he]
  · rw [← ho]
  · rw [← ho]
    rfl
end
section
variable {prog : Program} {w : World} {A : Around} {E : Value → Shared → Prop} {s : Shared}
theorem endEnumT {e it t : Addr} {i : Nat} {items : Array Value} {old : Value} {Q : Option Value → Shared → Prop} (hh : A.handled = none) (he : IsEnum s.heap e it ((i : Nat) : Int) old) (hit : s.heap.IsTupleIter it t i) (ht : s.heap.IsTuple t items) (hx : items[i]? = none)
    (hQ : ∀ h2, Heap.ExtBut it s.heap h2 → Q none { s with heap := h2 }) : wpAny (model prog w) A (pyNext (.ref e)) Q E s := by
  have hT : s.TypeIs (.ref e) "enumerate" := ⟨_, he, rfl⟩
  unfold pyNext
  refine wpAny_bind (wpAny_attempt (wpAny_callSpecial?_slot (name := Str.ofString "__next__") hT F.slot_enumerate_next
    (wpAny_call_entry F.slot_enumerate_next hT F.entry_enumerate_next ?_ (F.args_enumerate_next_1 _))))
  show wpAny _ _ (field (Value.ref e) 2 >>= _) _ _ s
  refine wpAny_bind (wpAny_field he rfl (x := .ref it) rfl ?_)
  refine wpAny_bind (wpAny_nextOf_tuple_end (by exact hh) hit ht hx fun h2 x eb hx2 => ?_)
  obtain ⟨o, ho, hc⟩ := hx2
  exact wpAny_bind (wpAny_isInstance (T := "StopIteration") (b := true) ⟨o, ho, hc⟩ isSubtype_stop (wpAny_pure (hQ _ eb)))
end
/-- the tuple at a, each item in a new pair with its place -/
def IteT (K : PySem.W.Frag) (a : Addr) : It where
  go := fun i H => ∃ (xs : List V) (x : V), SqT K H a xs ∧ xs[i]? = some x
  yld := fun i H v H' => ∃ T x, v = .ref T ∧ H T = none ∧ H' = upd H T (.tup [.int (i : Nat), x]) ∧ ∀ xs, SqT K H a xs → xs[i]? = some x
  stop := fun i H => ∃ xs : List V, SqT K H a xs ∧ xs.length ≤ i
theorem turnEnumT {P : Program} {w : World} {K : PySem.W.Frag} {elts : List Expr} {kk : Nat} {tpos : Pos} (a e it : Addr) (hat : a ≠ it) :
    Turn P w K (.Tuple elts kk tpos) (IteT K a) [e, it] e (fun i h => (∃ old, IsEnum h e it ((i : Nat) : Int) old) ∧ h.IsTupleIter it a i ∧ e ≠ it ∧ e ≠ a) where
  mem := by simp
  obj := by
    rintro i h ⟨⟨old, he⟩, ⟨o, ho, hc, hd⟩, _⟩ b hb
    have hb' : b = e ∨ b = it := by simpa using hb
    rcases hb' with rfl | rfl
    · exact ⟨_, he, fun v z => nomatch z⟩
    · exact ⟨o, ho, fun v z => by rw [hd] at z; cases z⟩
  keep := by
    rintro i h h' ⟨⟨old, he⟩, hi, hne⟩ k
    exact ⟨⟨old, k e (by simp) _ he⟩, hi.at fun o z => k it (by simp) o z, hne⟩
  item := by
    intro X hP hw hK hc i pins s σ H E I hf st hg
    subst hP hw hK
    obtain ⟨⟨old, he⟩, hit, hne, hea⟩ := st
    obtain ⟨xs, x, hq, hx⟩ := hg
    obtain ⟨its, rv, pt, hz⟩ := I.tuple hq
    obtain ⟨u, hu, ru⟩ := rv.get hx
    have hel : e < s.heap.objs.size := Heap.lt_size he
    have hil : it < s.heap.objs.size := by
      obtain ⟨_, z, _⟩ := hit
      exact Heap.lt_size z
    have hlt : i < its.toArray.size := by
      rw [List.size_toArray]
      exact (List.getElem?_eq_some_iff.mp hu).1
    have efp : e ∉ [it, a] := by
      simp only [List.mem_cons, List.not_mem_nil, or_false, not_or]
      exact ⟨hne, hea⟩
    refine wpAny_pyNext_enum_itemD (Draws.tuple (A := X.A.in1) (I.ok.hd hc) it a hat its.toArray) he ⟨hit, show s.heap.IsTuple a its.toArray from pt⟩ hlt hne efp fun y h' tk hy ho hst hT hsz hk => ?_
    have ey : y = u := by
      have z : its.toArray[i]? = some u := by simpa using hu
      rw [z] at hy
      exact (Option.some.inj hy).symm
    subst ey
    refine ⟨_, rfl, wpAny_letOwnedTupleGo_enum (s := { s with heap := h', toks := tk + 1 }) ho fun h'' he' sb => ?_⟩
    have hT2 : h''.get? s.heap.objs.size = some { cls := .type "tuple", data := .seq #[.int i tk, y] } := (sb.2 _ (Nat.ne_of_gt hel)).trans hT
    have new : ObjOk X.prog X.w (upd H s.heap.objs.size (.tup [.int (i : Nat), x])) h'' s.heap.objs.size (.tup [.int (i : Nat), x]) := by
      refine ⟨?_, [.int i tk, y], .cons ⟨_, rfl⟩ (.cons ru .nil), ⟨_, hT2, rfl, _, rfl⟩⟩
      show 2 ≤ sizeLine
      decide
    have outs : ∀ b, b ∉ [e, it] → b ≠ e ∧ b ≠ it := fun b hb => by
      simp only [List.mem_cons, List.not_mem_nil, or_false, not_or] at hb
      exact hb
    have I1 := I.turnedNew (t' := tk + 1) (ch := [e, it]) (h' := h'') (fun b ob hb z => (sb.2 b (outs b hb).1).trans (hk b ob (outs b hb).1 (outs b hb).2 z)) hf (Nat.le_refl _) new
    refine ⟨.ref s.heap.objs.size, _, I1, rfl, ⟨_, x, rfl, I.hok.fresh (Nat.le_refl _), rfl, fun ys hy => by rw [I.tuple_inj hy hq]; exact hx⟩, ⟨⟨y, ?_⟩, hst.1.at fun o z => (sb.2 it (Ne.symm hne)).trans z, hne, hea⟩, fun b hb => ?_⟩
    · have e1 : ((i + 1 : Nat) : Int) = (i : Int) + 1 := by omega
      rw [e1]
      exact he'
    · have hb' : b = e ∨ b = it := by simpa using hb
      have hbl : b < s.heap.objs.size := by
        rcases hb' with rfl | rfl
        · exact hel
        · exact hil
      rw [upd_ne (Nat.ne_of_lt hbl)]
      exact (hf b hb).1
  done := by
    intro X hP hw hK hc i pins s σ H E I hf st hg
    subst hP hw hK
    obtain ⟨⟨old, he⟩, hit, hne, hea⟩ := st
    obtain ⟨xs, hq, hx⟩ := hg
    obtain ⟨its, rv, pt, hz⟩ := I.tuple hq
    obtain ⟨f0, f1, f2, f3, f4, f5⟩ := hf it (by simp)
    have hl := rv.length
    refine endEnumT (I.ok.hd hc) he hit (show s.heap.IsTuple a its.toArray from pt) (by rw [List.getElem?_toArray]; exact List.getElem?_eq_none (by omega)) fun h' eb => ⟨rfl, I.turned (t' := s.toks) (fun b o hb z => eb b o hb z) f0 f1 f3 f4 f5⟩
  self := by
    rintro A i s Q E ⟨⟨_, he⟩, _⟩ h
    exact wpAny_pyIter_enum he h
def iEnumT (K : PySem.W.Frag) (ta : TA) : TI := fun σ H R => ta σ H fun vs H1 => ∃ a xs, vs = [.ref a] ∧ SqT K H1 a xs ∧ R (IteT K a) H1
theorem piEnumT {X : Cx} {e : Expr} {ta : TA} {p pos tpos : Pos} {elts : List Expr} {kk : Nat} (hg : Gl X "enumerate") (hm : X.mg "enumerate" = none) (ha : PA X [e] ta) (hs : starEach [e] X.env = [(false, eval e X.env)] := by rfl) :
    PI X (.Tuple elts kk tpos) (.Call (.Name "enumerate" p) [e] [] pos) (iEnumT X.K ta) := by
  refine ⟨fun pins s σ H R I h => Call_ (ld_blt I hg hm boot_enumerate (PyProof.Rows.callWith_type1 (thn (ha.run pos pins s σ H _ I h) ?_) hs rfl))⟩
  rintro us s1 ⟨vs, H1, I1, r1, a, xs, rfl, hq, q⟩
  obtain ⟨u, rfl, r⟩ := vals1 r1
  cases r
  obtain ⟨its, rv, pt, hz⟩ := I1.tuple hq
  have hal : a < s1.heap.objs.size := pt.lt
  refine callEnumT (show s1.heap.IsTuple a its.toArray from pt) fun h2 he hit hk => wpAny_pyIter_enum he ?_
  have I2 : Inv X pins σ H1 { s1 with heap := h2 } := I1.kept (t' := s1.toks) hk
  refine ⟨s1.heap.objs.size + 1, [s1.heap.objs.size + 1, s1.heap.objs.size], _, _, H1, rfl, I2, turnEnumT a (s1.heap.objs.size + 1) s1.heap.objs.size (Nat.ne_of_lt hal), ⟨⟨.none, he⟩, hit, Nat.succ_ne_self _, Nat.ne_of_gt (Nat.lt_succ_of_lt hal)⟩, fun b hb => ?_, q⟩
  have hb' : b = s1.heap.objs.size + 1 ∨ b = s1.heap.objs.size := by simpa using hb
  have hle : s1.heap.objs.size ≤ b := by
    rcases hb' with rfl | rfl
    · exact Nat.le_succ _
    · exact Nat.le_refl _
  exact I1.fpOk hle (I1.hok.fresh hle)
end Dn

namespace Dn
open PySem PySem.Spec PyProof.Rows L2

/-! ### what is walked -/
structure ItD (C : Ct) (σ : L2.St) (H : Hp) (ds : List D) (J : It) : Prop where
  go : ∀ H2 i d, Ext (MO C σ) H H2 → ds[i]? = some d → J.go i H2
  yld : ∀ H2 (M' : Addr → Prop) i d x H3, Ext (MO C σ) H H2 → (∀ a, M' a → MO C σ a ∨ H a = none) → ds[i]? = some d → J.yld i H2 x H3 → Same H2 H3 ∧ IsD C.k H3 M' d x
  stop : ∀ H2, Ext (MO C σ) H H2 → J.stop ds.length H2
theorem IsD.newT' {k : Kx} {H : Hp} {M : Addr → Prop} {p : Addr} {ds : List D} {vs : List V} (hp : H p = none) (i : IsDs k H M ds vs) : IsD k (upd H p (.tup vs)) M (.tup ds) (.ref p) :=
  ⟨p, vs, rfl, .inl (.inl upd_same), IsDs.step (Ext.upd hp) (fun _ z => .inl z) _ _ i⟩
def tI (C : Ct) (f : MD (List D)) : TI := fun σ H R => ∃ e, SR C e σ H ∧ Out (fun p => ∀ J H', Ext (OW C σ) H H' → SR C p.2 σ H' → ItD C σ H' p.1 J → R J H') (XO C σ H) (f e)
section
variable {X : Cx} {C : Ct} {tg a b : Expr} {pos p tpos : Pos} {elts : List Expr} {kk : Nat}
theorem PI.imp {t t' : TI} (h : PI X tg a t) (i : ∀ σ H R, t' σ H R → t σ H R) : PI X tg a t' := ⟨fun pins s σ H R I hw => h.run pins s σ H R I (i σ H R hw)⟩
theorem PI.or {t t' : TI} (h : PI X tg a t) (h' : PI X tg a t') : PI X tg a (fun σ H R => t σ H R ∨ t' σ H R) := ⟨fun pins s σ H R I hw => hw.elim (h.run pins s σ H R I) (h'.run pins s σ H R I)⟩
theorem itd_list {K : PySem.W.Frag} {σ : L2.St} {H : Hp} {ds : List D} {vs : List V} {l : Addr} (h1 : H l = some (.lst vs)) (n : ¬ MO C σ l) (h2 : IsDs C.k H (MO C σ) ds vs) : ItD C σ H ds (Itl K l) := by
  have at2 : ∀ H2, Ext (MO C σ) H H2 → SqL K H2 l vs := fun H2 x => .inl (.inl (x l _ h1 (.inl n)))
  refine ⟨fun H2 i d x hd => ?_, fun H2 M' i d x H3 xx mm hd hy => ?_, fun H2 x => ⟨vs, at2 H2 x, Nat.le_of_eq h2.length⟩⟩
  · obtain ⟨v, hv, _⟩ := h2.get hd
    exact ⟨vs, v, at2 H2 x, hv⟩
  · obtain ⟨rfl, hx⟩ := hy
    obtain ⟨v, hv, hi⟩ := (IsDs.step xx mm _ _ h2).get hd
    have e1 := hx vs (at2 _ xx)
    rw [hv] at e1
    cases e1
    exact ⟨Same.refl _, hi⟩
theorem itd_tup {σ : L2.St} {H : Hp} {ds : List D} {vs : List V} {l : Addr} (h1 : SqT C.k.K H l vs) (h2 : IsDs C.k H (MO C σ) ds vs) : ItD C σ H ds (Itt C.k.K l) := by
  have at2 : ∀ H2, Ext (MO C σ) H H2 → SqT C.k.K H2 l vs := fun H2 x => x.sqT h1
  refine ⟨fun H2 i d x hd => ?_, fun H2 M' i d x H3 xx mm hd hy => ?_, fun H2 x => ⟨vs, at2 H2 x, Nat.le_of_eq h2.length⟩⟩
  · obtain ⟨v, hv, _⟩ := h2.get hd
    exact ⟨vs, v, at2 H2 x, hv⟩
  · obtain ⟨rfl, hx⟩ := hy
    obtain ⟨v, hv, hi⟩ := (IsDs.step xx mm _ _ h2).get hd
    have e1 := hx vs (at2 _ xx)
    rw [hv] at e1
    cases e1
    exact ⟨Same.refl _, hi⟩
/-- a list or a tuple -/
def seqM (f : MD D) : MD (List D) := fun e => (f e).bind fun q => match q.1 with
  | .lst ds => .ok (ds, q.2)
  | .tup ds => .ok (ds, q.2)
  | _ => .bad
theorem ji_seq {f : MD D} (hK : C.k.K = X.K) (ha : PE X a (tE C f)) : PI X tg a (tI C (seqM f)) := by
  refine PI.imp (PI.or (pi_list ha) (pi_tup ha)) fun σ H R ⟨e, s, o⟩ => ?_
  rw [← hK]
  have o2 := Out.bind o
  cases e0 : f e with
  | bad =>
    rw [e0] at o2
    exact o2.elim
  | exc y l =>
    rw [e0] at o2
    exact .inl ⟨e, s, by rw [e0]; exact o2⟩
  | ok q =>
    rw [e0] at o2
    obtain ⟨d, e1⟩ := q
    have o3 : Out _ _ (match d with | .lst ds => Dn.R.ok (ds, e1) | .tup ds => .ok (ds, e1) | _ => .bad) := o2
    cases d with
    | lst ds =>
      refine .inl ⟨e, s, ?_⟩
      rw [e0]
      intro v H1 x1 s1 i1
      obtain ⟨l, vs, rfl, h1, n, h2⟩ := i1
      exact ⟨l, rfl, ⟨vs, .inl (.inl h1)⟩, o3 _ H1 x1 s1 (itd_list h1 n h2)⟩
    | tup ds =>
      refine .inr ⟨e, s, ?_⟩
      rw [e0]
      intro v H1 x1 s1 i1
      obtain ⟨l, vs, rfl, h1, h2⟩ := i1
      exact ⟨l, rfl, ⟨vs, h1⟩, o3 _ H1 x1 s1 (itd_tup h1 h2)⟩
    | _ => exact o3.elim
/-- range -/
def rngL (lo : Int) (n : Nat) : List D := (List.range n).map fun (i : Nat) => D.int (lo + (i : Int))
theorem rngL_get (lo : Int) (n i : Nat) : (rngL lo n)[i]? = if i < n then some (D.int (lo + (i : Int))) else none := by
  unfold rngL
  rw [List.getElem?_map]
  by_cases h : i < n
  · rw [if_pos h, List.getElem?_range h]
    rfl
  · rw [if_neg h, List.getElem?_eq_none (by rw [List.length_range]; omega)]
    rfl
theorem rngL_len (lo : Int) (n : Nat) : (rngL lo n).length = n := by
  unfold rngL
  rw [List.length_map, List.length_range]
def rng1M (fa : MD (List D)) : MD (List D) := fun e => (fa e).bind fun q => match q.1 with
  | [.int j] => if -(2 ^ 62) ≤ j ∧ j < 2 ^ 62 then .ok (rngL 0 j.toNat, q.2) else .bad
  | _ => .bad
def rng2M (fa : MD (List D)) : MD (List D) := fun e => (fa e).bind fun q => match q.1 with
  | [.int i, .int j] => if -(2 ^ 62) ≤ i ∧ i < 2 ^ 62 ∧ -(2 ^ 62) ≤ j ∧ j < 2 ^ 62 then .ok (rngL i (j - i).toNat, q.2) else .bad
  | _ => .bad
theorem itd_rng {σ : L2.St} {H : Hp} {lo : Int} {n : Nat} : ItD C σ H (rngL lo n) (Itr lo n) := by
  refine ⟨fun H2 i d x hd => ?_, fun H2 M' i d x H3 xx mm hd hy => ?_, fun H2 x => by show n ≤ _; rw [rngL_len]; exact Nat.le_refl _⟩
  · rw [rngL_get] at hd
    by_cases h : i < n
    · exact h
    · rw [if_neg h] at hd
      cases hd
  · obtain ⟨rfl, rfl⟩ := hy
    rw [rngL_get] at hd
    by_cases h : i < n
    · rw [if_pos h] at hd
      cases hd
      exact ⟨Same.refl _, rfl⟩
    · rw [if_neg h] at hd
      cases hd
theorem ji_rng1 {fa : MD (List D)} (hg : Gl X "range") (hm : X.mg "range" = none) (ha : PA X [a] (tA C fa)) (hs : starEach [a] X.env = [(false, eval a X.env)] := by rfl) : PI X tg (.Call (.Name "range" p) [a] [] pos) (tI C (rng1M fa)) := by
  refine PI.imp (pi_range1 hg hm ha hs) fun σ H R ⟨e, s, o⟩ => ⟨e, s, (Out.bind o).imp (fun q hp => ?_) fun _ _ z => z⟩
  obtain ⟨ds, e1⟩ := q
  intro vs H1 x1 s1 i1
  dsimp only at hp i1 s1
  split at hp
  · split at hp
    · rename_i j hj
      obtain ⟨v, rfl, h⟩ := IsTs.one i1.t
      cases h
      exact ⟨j, rfl, hj.1, hj.2, hp _ H1 x1 s1 itd_rng⟩
    · exact hp.elim
  · exact hp.elim
theorem ji_rng2 {fa : MD (List D)} (hg : Gl X "range") (hm : X.mg "range" = none) (ha : PA X [a, b] (tA C fa)) (hs : starEach [a, b] X.env = [(false, eval a X.env), (false, eval b X.env)] := by rfl) (hs2 : starEach [b] X.env = [(false, eval b X.env)] := by rfl) :
    PI X tg (.Call (.Name "range" p) [a, b] [] pos) (tI C (rng2M fa)) := by
  refine PI.imp (pi_range2 hg hm ha hs hs2) fun σ H R ⟨e, s, o⟩ => ⟨e, s, (Out.bind o).imp (fun q hp => ?_) fun _ _ z => z⟩
  obtain ⟨ds, e1⟩ := q
  intro vs H1 x1 s1 i1
  dsimp only at hp i1 s1
  split at hp
  · split at hp
    · rename_i i j hj
      obtain ⟨v, w, rfl, h, h'⟩ := IsTs.two i1.t
      cases h
      cases h'
      exact ⟨i, j, rfl, hj, hp _ H1 x1 s1 itd_rng⟩
    · exact hp.elim
  · exact hp.elim
/-- enumerate -/
def enumL (ds : List D) : List D := (List.range ds.length).zipWith (fun (i : Nat) d => D.tup [.int (i : Int), d]) ds
def enumFrom (i : Nat) : List D → List D
  | [] => []
  | d :: r => .tup [.int (i : Int), d] :: enumFrom (i + 1) r
theorem enumFrom_get : ∀ (ds : List D) (k i : Nat) , (enumFrom k ds)[i]? = (ds[i]?).map fun d => D.tup [.int ((k + i : Nat) : Int), d]
  | [], k, i => by simp [enumFrom]
  | d :: r, k, 0 => by simp [enumFrom]
  | d :: r, k, i + 1 => by
    show (enumFrom (k + 1) r)[i]? = _
    rw [enumFrom_get r (k + 1) i]
    have e : k + 1 + i = k + (i + 1) := by omega
    rw [e]
    rfl
theorem enumFrom_len : ∀ (ds : List D) (k : Nat), (enumFrom k ds).length = ds.length
  | [], _ => rfl
  | _ :: r, k => congrArg Nat.succ (enumFrom_len r (k + 1))
def enumM (fa : MD (List D)) : MD (List D) := fun e => (fa e).bind fun q => match q.1 with
  | [.lst ds] => .ok (enumFrom 0 ds, q.2)
  | [.tup ds] => .ok (enumFrom 0 ds, q.2)
  | _ => .bad
theorem enum_item {M' : Addr → Prop} {H2 : Hp} {i : Nat} {d d' : D} {x : V} {T : Addr} (hT : H2 T = none) (hi : IsD C.k H2 M' d x) (he : d' = .tup [.int ((i : Nat) : Int), d]) : Same H2 (upd H2 T (.tup [.int (i : Nat), x])) ∧ IsD C.k (upd H2 T (.tup [.int (i : Nat), x])) M' d' (.ref T) := by
  subst he
  exact ⟨same_upd' hT, IsD.newT' hT (.cons rfl (.cons hi .nil))⟩
theorem itd_enumL {K : PySem.W.Frag} {σ : L2.St} {H : Hp} {ds : List D} {vs : List V} {l : Addr} (h1 : H l = some (.lst vs)) (n : ¬ MO C σ l) (h2 : IsDs C.k H (MO C σ) ds vs) : ItD C σ H (enumFrom 0 ds) (Ite K l) := by
  have at2 : ∀ H2, Ext (MO C σ) H H2 → SqL K H2 l vs := fun H2 x => .inl (.inl (x l _ h1 (.inl n)))
  refine ⟨fun H2 i d x hd => ?_, fun H2 M' i d x H3 xx mm hd hy => ?_, fun H2 x => ⟨vs, at2 H2 x, by rw [enumFrom_len]; exact Nat.le_of_eq h2.length⟩⟩
  · rw [enumFrom_get] at hd
    cases e0 : ds[i]? with
    | none =>
      rw [e0] at hd
      cases hd
    | some d0 =>
      obtain ⟨v, hv, _⟩ := h2.get e0
      exact ⟨vs, v, at2 H2 x, hv⟩
  · obtain ⟨T, y, rfl, hT, rfl, hx⟩ := hy
    rw [enumFrom_get] at hd
    cases e0 : ds[i]? with
    | none =>
      rw [e0] at hd
      cases hd
    | some d0 =>
      rw [e0] at hd
      obtain ⟨v, hv, hi⟩ := (IsDs.step xx mm _ _ h2).get e0
      have e1 := hx vs (at2 _ xx)
      rw [hv] at e1
      cases e1
      have e2 : d = .tup [.int ((i : Nat) : Int), d0] := by
        have := Option.some.inj hd
        rw [Nat.zero_add] at this
        exact this.symm
      exact enum_item hT hi e2
theorem itd_enumT {σ : L2.St} {H : Hp} {ds : List D} {vs : List V} {l : Addr} (h1 : SqT C.k.K H l vs) (h2 : IsDs C.k H (MO C σ) ds vs) : ItD C σ H (enumFrom 0 ds) (IteT C.k.K l) := by
  have at2 : ∀ H2, Ext (MO C σ) H H2 → SqT C.k.K H2 l vs := fun H2 x => x.sqT h1
  refine ⟨fun H2 i d x hd => ?_, fun H2 M' i d x H3 xx mm hd hy => ?_, fun H2 x => ⟨vs, at2 H2 x, by rw [enumFrom_len]; exact Nat.le_of_eq h2.length⟩⟩
  · rw [enumFrom_get] at hd
    cases e0 : ds[i]? with
    | none =>
      rw [e0] at hd
      cases hd
    | some d0 =>
      obtain ⟨v, hv, _⟩ := h2.get e0
      exact ⟨vs, v, at2 H2 x, hv⟩
  · obtain ⟨T, y, rfl, hT, rfl, hx⟩ := hy
    rw [enumFrom_get] at hd
    cases e0 : ds[i]? with
    | none =>
      rw [e0] at hd
      cases hd
    | some d0 =>
      rw [e0] at hd
      obtain ⟨v, hv, hi⟩ := (IsDs.step xx mm _ _ h2).get e0
      have e1 := hx vs (at2 _ xx)
      rw [hv] at e1
      cases e1
      have e2 : d = .tup [.int ((i : Nat) : Int), d0] := by
        have := Option.some.inj hd
        rw [Nat.zero_add] at this
        exact this.symm
      exact enum_item hT hi e2
theorem ji_enum {fa : MD (List D)} (hK : C.k.K = X.K) (hg : Gl X "enumerate") (hm : X.mg "enumerate" = none) (ha : PA X [a] (tA C fa)) (hs : starEach [a] X.env = [(false, eval a X.env)] := by rfl) : PI X (.Tuple elts kk tpos) (.Call (.Name "enumerate" p) [a] [] pos) (tI C (enumM fa)) := by
  refine PI.imp (PI.or (pi_enum hg hm ha hs) (piEnumT hg hm ha hs)) fun σ H R ⟨e, s, o⟩ => ?_
  rw [← hK]
  have o2 := Out.bind o
  cases e0 : fa e with
  | bad =>
    rw [e0] at o2
    exact o2.elim
  | exc y l =>
    rw [e0] at o2
    exact .inl ⟨e, s, by rw [e0]; exact o2⟩
  | ok q =>
    rw [e0] at o2
    obtain ⟨ds0, e1⟩ := q
    have o3 : Out _ _ (match ds0 with | [.lst ds] => Dn.R.ok (enumFrom 0 ds, e1) | [.tup ds] => .ok (enumFrom 0 ds, e1) | _ => .bad) := o2
    split at o3
    · refine .inl ⟨e, s, ?_⟩
      rw [e0]
      intro vs H1 x1 s1 i1
      obtain ⟨v, r, rfl, ⟨l, vs, rfl, h1, n, h2⟩, h3⟩ := i1
      rw [show r = [] from h3]
      exact ⟨l, vs, rfl, .inl (.inl h1), o3 _ H1 x1 s1 (itd_enumL h1 n h2)⟩
    · refine .inr ⟨e, s, ?_⟩
      rw [e0]
      intro vs H1 x1 s1 i1
      obtain ⟨v, r, rfl, ⟨l, vs, rfl, h1, h2⟩, h3⟩ := i1
      rw [show r = [] from h3]
      exact ⟨l, vs, rfl, h1, o3 _ H1 x1 s1 (itd_enumT h1 h2)⟩
    · exact o3.elim

/-! ### for, while -/
def forS (g : GD) (b : MS) : List D → MS
  | [], e => .ok (.nx, e)
  | d :: ds, e => (g d e).bind fun e1 => (b e1).bind fun p => match p.1 with
    | .nx => forS g b ds p.2
    | .ct => forS g b ds p.2
    | .bk => .ok (.nx, p.2)
    | .rt v => .ok (.rt v, p.2)
def forM (f : MD (List D)) (g : GD) (b : MS) : MS := fun e => (f e).bind fun p => forS g b p.1 p.2
theorem js_for {iter : Expr} {body : List Stmt} {f : MD (List D)} {g : GD} {fb : MS} (nx : ∀ d e y l, g d e ≠ .exc y l) (hp : PassesOwn (model X.prog X.w) X.A X.env X.xe) (hc : X.calm = true) (hi : PI X tg iter (tI C f)) (hg : PG X tg (tG C g)) (hb : PSs X body (tS C fb))
    (hs : ∀ x, foldedSetIterable iter X.env x = pure x := by intro _; rfl) : PS X (.For tg iter body [] pos) (tS C (forM f g fb)) := by
  refine PS.imp (ps_for hp hc hi hg hb hs) fun Dn σ H ⟨e, s, o⟩ => ⟨e, s, (Out.bind o).imp (fun q hq => ?_) fun _ _ z => z.xo⟩
  obtain ⟨ds, e1⟩ := q
  intro J H1 x1 s1 it
  refine ⟨fun i m σ' H' => m = ds.length - i ∧ i ≤ ds.length ∧ Stp C σ H1 σ' H' ∧ ∃ e', SR C e' σ' H' ∧ OS C σ' H' Dn (forS g fb (ds.drop i) e'), ⟨ds.length, rfl, Nat.zero_le _, Stp.refl, e1, s1, OS.step hq (Stp.of x1)⟩, ?_⟩
  rintro i m σ2 H2 ⟨rfl, hi, x2, e2, s2, o2⟩
  by_cases hlt : i < ds.length
  · have hd : ds[i]? = some ds[i] := List.getElem?_eq_getElem hlt
    rw [List.drop_eq_getElem_cons hlt] at o2
    refine .inr ⟨it.go H2 i _ x2.ex.mo hd, fun σ' H' => Stp C σ H1 σ' H' ∧ ∃ e', SR C e' σ' H' ∧ OS C σ' H' Dn (forS g fb (ds.drop (i + 1)) e'), fun σ' H' ⟨h1, h2⟩ => ⟨_, by omega, rfl, hlt, h1, h2⟩, fun x H3 hy => ?_⟩
    obtain ⟨k3, i3⟩ := it.yld H2 (MO C σ2) i _ x H3 x2.ex.mo x2.mo hd hy
    refine ⟨e2, ds[i], s2.same k3, i3, ?_⟩
    have o3 := Out.bind (show Out _ _ ((g ds[i] e2).bind _) from o2)
    cases e0 : g ds[i] e2 with
    | exc y l => exact absurd e0 (nx _ _ _ _)
    | bad =>
      rw [e0] at o3
      exact o3.elim
    | ok e3 =>
      rw [e0] at o3
      intro σ4 H4 x4 s4
      have x24 : Stp C σ2 H2 σ4 H4 := (Stp.of (same_ext k3)).trans x4
      refine ⟨e3, s4, (Out.bind o3).imp (fun q hq => ?_) fun _ _ z => z.step x24⟩
      obtain ⟨fl, e5⟩ := q
      cases fl with
      | nx => exact fun σ5 H5 x5 s5 => ⟨(x2.trans x24).trans x5, e5, s5, OS.step hq (x24.trans x5)⟩
      | ct => exact fun σ5 H5 x5 s5 => ⟨(x2.trans x24).trans x5, e5, s5, OS.step hq (x24.trans x5)⟩
      | bk => exact fun σ5 H5 x5 s5 => hq σ5 H5 (x24.trans x5) s5
      | rt v => exact hq
  · have e : i = ds.length := by omega
    subst e
    rw [List.drop_length] at o2
    exact .inl ⟨it.stop H2 x2.ex.mo, o2 σ2 H2 Stp.refl s2⟩
/-- while, with a bound of its turns -/
def whS (t : MD Bool) (b : MS) : Nat → MS
  | 0, _ => .bad
  | n + 1, e => (t e).bind fun p => match p.1 with
    | true => (b p.2).bind fun q => match q.1 with
      | .nx => whS t b n q.2
      | .ct => whS t b n q.2
      | .bk => .ok (.nx, q.2)
      | .rt v => .ok (.rt v, q.2)
    | false => .ok (.nx, p.2)
theorem js_while {c : Expr} {body : List Stmt} {t : MD Bool} {fb : MS} (n : Nat) (hp : PassesOwn (model X.prog X.w) X.A X.env X.xe) (hc : PT X c (tT C t)) (hb : PSs X body (tS C fb)) : PS X (.While c body [] pos) (tS C (whS t fb n)) := by
  refine PS.imp (ps_while hp hc hb) fun Dn σ H ⟨e, s, o⟩ => ?_
  refine ⟨fun m σ' H' => Stp C σ H σ' H' ∧ ∃ e', SR C e' σ' H' ∧ OS C σ' H' Dn (whS t fb m e'), ⟨n, Stp.refl, e, s, o⟩, ?_⟩
  rintro m σ1 H1 ⟨x1, e1, s1, o1⟩
  cases m with
  | zero => exact o1.elim
  | succ m =>
    have o2 := Out.bind (show Out _ _ ((t e1).bind _) from o1)
    refine ⟨e1, s1, o2.imp (fun q hq => ?_) fun _ _ z => z.xo⟩
    obtain ⟨bb, e2⟩ := q
    intro H2 x2 s2
    cases bb with
    | false => exact iteF (hq σ1 H2 (Stp.of x2) s2)
    | true =>
      refine iteT ⟨fun σ' H' => Stp C σ H σ' H' ∧ ∃ e', SR C e' σ' H' ∧ OS C σ' H' Dn (whS t fb m e'), fun σ' H' h => ⟨m, Nat.lt_succ_self _, h⟩, e2, s2, ?_⟩
      refine (Out.bind hq).imp (fun q hq => ?_) fun _ _ z => z.step (Stp.of x2)
      obtain ⟨fl, e5⟩ := q
      have x12 := (Stp.of x2 : Stp C σ1 H1 σ1 H2)
      cases fl with
      | nx => exact fun σ5 H5 x5 s5 => ⟨(x1.trans x12).trans x5, e5, s5, OS.step hq (x12.trans x5)⟩
      | ct => exact fun σ5 H5 x5 s5 => ⟨(x1.trans x12).trans x5, e5, s5, OS.step hq (x12.trans x5)⟩
      | bk => exact fun σ5 H5 x5 s5 => hq σ5 H5 (x12.trans x5) s5
      | rt v => exact hq
end
end Dn

namespace Dn
open PySem PySem.Spec PyProof.Rows L2

/-! ### list comprehensions -/
/-- the block's own static part: more that isn't touched, nothing raised -/
def Ct.b (C : Ct) (M' : Addr → Prop) : Ct := { C with M := M', W := fun _ _ _ _ => False }
def noX {α : Type} : R α → R α
  | .ok a => .ok a
  | _ => .bad
theorem noX_out {α : Type} {P : α → Prop} {E E' : Ex → Lc → Prop} {r : R α} (h : Out P E (noX r)) : Out P E' r := by
  cases r with
  | ok a => exact h
  | exc x e => exact h.elim
  | bad => exact h.elim
theorem noX_bind {α β : Type} {P : β → Prop} {E E' : Ex → Lc → Prop} {r : R α} {k : α → R β} (h : Out P E ((noX r).bind k)) : Out (fun a => Out P E (k a)) E' r := by
  cases r with
  | ok a => exact h
  | exc x e => exact h.elim
  | bad => exact h.elim
def wipeL (e : Lc) : List Nat → Lc
  | [] => e
  | v :: vs => (wipeL e vs).set v none
/-- the slots vs as they are in e, all others as in e' -/
def keepL (e e' : Lc) : List Nat → Lc
  | [] => e'
  | v :: vs => (keepL e e' vs).set v (e.getD v none)
def lcS (vs : List Nat) (g : GD) (t : MD Bool) (el : MD D) : List D → Lc → R (List D × Lc)
  | [], e => .ok ([], e)
  | d :: ds, e => (noX (g d e)).bind fun e1 => (noX (t e1)).bind fun p => match p.1 with
    | true => (noX (el p.2)).bind fun q => (lcS vs g t el ds (wipeL q.2 vs)).bind fun r => .ok (q.1 :: r.1, r.2)
    | false => lcS vs g t el ds (wipeL p.2 vs)
def lcM (vs : List Nat) (f : MD (List D)) (g : GD) (t : MD Bool) (el : MD D) : MD (List D) := fun e => (f e).bind fun p => if p.1.length ≤ sizeLine then (lcS vs g t el p.1 (wipeL p.2 vs)).bind fun q => .ok (q.1, keepL p.2 q.2 vs) else .bad
/-- a target of plain names of the block -/
def tGv (C : Ct) (vs : List Nat) (g : GD) : TG := fun v σ H Q => ∃ e d, SR C e σ H ∧ IsD C.k H (MO C σ) d v ∧ Out (fun e' => ∀ σ', OW C σ' = OW C σ → wipe σ' vs = wipe σ vs → SR C e' σ' H → Q σ' H) (fun _ _ => False) (g d e)
def tGvs (C : Ct) (vs : List Nat) (g : List D → Lc → R Lc) : TGs := fun v σ H Q => ∃ e ds, SR C e σ H ∧ IsDs C.k H (MO C σ) ds v ∧ Out (fun e' => ∀ σ', OW C σ' = OW C σ → wipe σ' vs = wipe σ vs → SR C e' σ' H → Q σ' H) (fun _ _ => False) (g ds e)
section
variable {X : Cx} {C : Ct} {pos : Pos} {vs : List Nat}
theorem wipe_set : ∀ {vs : List Nat} {σ : L2.St} {i : Nat} {x : Option V}, i ∈ vs → wipe (σ.set i x) vs = wipe σ vs := by
  have sw : ∀ (vs : List Nat) (σ : L2.St) (i : Nat) (x : Option V), wipe (σ.set i x) vs = if i ∈ vs then wipe σ vs else (wipe σ vs).set i x := by
    intro vs
    induction vs with
    | nil => intro σ i x; simp [wipe]
    | cons v r ih =>
      intro σ i x
      show (wipe (σ.set i x) r).set v none = _
      rw [ih]
      by_cases h1 : i = v
      · subst h1
        rw [if_pos List.mem_cons_self]
        by_cases h2 : i ∈ r
        · rw [if_pos h2]
          rfl
        · rw [if_neg h2, List.set_set]
          rfl
      · by_cases h2 : i ∈ r
        · rw [if_pos h2, if_pos (List.mem_cons_of_mem _ h2)]
          rfl
        · rw [if_neg h2, if_neg (fun z => (List.mem_cons.mp z).elim h1 h2)]
          exact List.set_comm _ _ h1
  intro vs σ i x h
  rw [sw, if_pos h]
theorem wipe_sub {vs : List Nat} {σ : L2.St} : ∀ ws : List Nat, (∀ w ∈ ws, w ∈ vs) → wipe (wipe σ ws) vs = wipe σ vs
  | [], _ => rfl
  | w :: ws, h => by
    show wipe ((wipe σ ws).set w none) vs = _
    rw [wipe_set (h w List.mem_cons_self)]
    exact wipe_sub ws fun u hu => h u (List.mem_cons_of_mem _ hu)
theorem OW_eq {σ : L2.St} {i : Nat} {x : Option V} (hi : i ∉ C.own) : OW C (σ.set i x) = OW C σ := by
  funext a
  refine propext ⟨OW_set hi, fun ⟨j, hj, h⟩ => ⟨j, hj, ?_⟩⟩
  rw [List.getElem?_set_ne (fun z => hi (by rw [z]; exact hj))]
  exact h
theorem MO_of {σ σ1 : L2.St} (h : OW C σ1 = OW C σ) : MO C σ1 = MO C σ := by
  funext a
  show (C.M a ∨ OW C σ1 a) = (C.M a ∨ OW C σ a)
  rw [h]
theorem jv_name {i : Nat} {x : Str} (hi : i ∈ vs) (ho : i ∉ C.own) (hf : Free C i) (hN : X.N.Nodup) (hx0 : X.N[i]? = some x) (hx : Loc X.env.scope x) (hfn : X.fn x = true ∨ X.env.scope.names.lookup x = some .local) : PG X (.Name x pos) (tGv C vs (nmG i)) := by
  refine PG.imp (pg_name hN hx0 hx hfn) fun v σ H Q ⟨e, d, s, iv, o⟩ => ?_
  exact o _ (OW_eq ho) (wipe_set hi) (s.set ho hf iv)
theorem jvs_nil : PGs X [] (tGvs C vs nilG) := by
  refine PGs.imp pgs_nil fun v σ H Q ⟨e, ds, s, iv, o⟩ => ?_
  cases ds with
  | nil => exact ⟨iv, o σ rfl rfl s⟩
  | cons d r => exact o.elim
theorem jvs_cons {a : Expr} {es : List Expr} {g : GD} {h : List D → Lc → R Lc} (h1 : PG X a (tGv C vs g)) (h2 : PGs X es (tGvs C vs h)) (hs : (assignEach (a :: es) X.env).map (·.2) = assign a X.env :: (assignEach es X.env).map (·.2) := by rfl) : PGs X (a :: es) (tGvs C vs (consG g h)) := by
  refine PGs.imp (pgs_cons h1 h2 hs) fun v σ H Q ⟨e, ds, s, iv, o⟩ => ?_
  cases ds with
  | nil => exact o.elim
  | cons d r =>
    obtain ⟨v1, vr, e1, i1, i2⟩ := iv
    refine ⟨v1, vr, e1, e, d, s, i1, (Out.bind o).imp (fun e' he => ?_) fun _ _ z => z⟩
    intro σ1 m1 w1 s1
    refine ⟨e', r, s1, by rw [show MO C σ1 = MO C σ from MO_of m1]; exact i2, he.imp (fun e2 h3 σ2 m2 w2 s2 => h3 σ2 (m2.trans m1) (w2.trans w1) s2) fun _ _ z => z⟩
theorem jv_tup {es : List Expr} {kk : Nat} {h : List D → Lc → R Lc} {n : Nat} (hK : C.k.K = X.K) (hc : X.calm = true) (hg : PGs X es (tGvs C vs h)) (hn : (assignEach es X.env).length = n := by rfl) (hst : (assignEach es X.env).findIdx? (·.1) = none := by rfl) : PG X (.Tuple es kk pos) (tGv C vs (tupG n h)) := by
  refine PG.imp (PG.or (pg_tup hc hg hn hst) (pg_lst hc hg hn hst)) fun v σ H Q ⟨e, d, s, iv, o⟩ => ?_
  rw [← hK]
  unfold tupG at o
  split at o
  · split at o
    · rename_i ds hl
      obtain ⟨a, ws, rfl, h1, h2⟩ := iv
      exact .inl ⟨a, ws, rfl, h1, h2.length.trans hl, e, ds, s, h2, o⟩
    · exact o.elim
  · split at o
    · rename_i ds hl
      obtain ⟨a, ws, rfl, h1, _, h2⟩ := iv
      exact .inr ⟨a, ws, rfl, .inl (.inl h1), h2.length.trans hl, e, ds, s, h2, o⟩
    · exact o.elim
  · exact o.elim
/-! states in and out of a block -/
/-- the slots vs are plain ones -/
def OkVs (C : Ct) (vs : List Nat) : Prop := ∀ v ∈ vs, v ∉ C.own ∧ Free C v
theorem MO_wipe : ∀ {vs : List Nat} {σ : L2.St}, OkVs C vs → MO C (wipe σ vs) = MO C σ
  | [], _, _ => rfl
  | v :: vs, σ, h => by
    show MO C ((wipe σ vs).set v none) = _
    rw [MO_set (h v List.mem_cons_self).1]
    exact MO_wipe fun u hu => h u (List.mem_cons_of_mem _ hu)
theorem OW_wipe : ∀ {vs : List Nat} {σ : L2.St}, OkVs C vs → OW C (wipe σ vs) = OW C σ
  | [], _, _ => rfl
  | v :: vs, σ, h => by
    show OW C ((wipe σ vs).set v none) = _
    rw [OW_eq (h v List.mem_cons_self).1]
    exact OW_wipe fun u hu => h u (List.mem_cons_of_mem _ hu)
theorem wipeL_len (e : Lc) : ∀ vs : List Nat, (wipeL e vs).length = e.length
  | [] => rfl
  | v :: vs => by
    show ((wipeL e vs).set v none).length = _
    rw [List.length_set, wipeL_len e vs]
theorem wipeL_get (e : Lc) (i : Nat) : ∀ vs : List Nat, (wipeL e vs)[i]? = if i ∈ vs then (if i < e.length then some none else none) else e[i]?
  | [] => by simp [wipeL]
  | v :: vs => by
    show ((wipeL e vs).set v none)[i]? = _
    rw [List.getElem?_set, wipeL_get e i vs, wipeL_len]
    by_cases h : v = i
    · subst h
      simp
    · have : i ≠ v := fun z => h z.symm
      simp [h, this, List.mem_cons]
theorem keepL_len (e e' : Lc) : ∀ vs : List Nat, (keepL e e' vs).length = e'.length
  | [] => rfl
  | v :: vs => by
    show ((keepL e e' vs).set v _).length = _
    rw [List.length_set, keepL_len e e' vs]
theorem keepL_get (e e' : Lc) (i : Nat) : ∀ vs : List Nat, (keepL e e' vs)[i]? = if i ∈ vs then (if i < e'.length then some (e.getD i none) else none) else e'[i]?
  | [] => by simp [keepL]
  | v :: vs => by
    show ((keepL e e' vs).set v _)[i]? = _
    rw [List.getElem?_set, keepL_get e e' i vs, keepL_len]
    by_cases h : v = i
    · subst h
      simp
    · have : i ≠ v := fun z => h z.symm
      simp [h, this, List.mem_cons]
theorem wipe_get {σ : L2.St} {i : Nat} : ∀ {vs : List Nat}, i ∉ vs → (wipe σ vs)[i]? = σ[i]?
  | [], _ => rfl
  | v :: vs, h => by
    show ((wipe σ vs).set v none)[i]? = _
    rw [List.getElem?_set_ne (fun z => h (by rw [z]; exact List.mem_cons_self))]
    exact wipe_get fun z => h (List.mem_cons_of_mem _ z)
theorem par_out {vs : List Nat} (hv : OkVs C vs) {a : Addr} (h : C.par = some a) : 0 ∉ vs := fun z => by
  rcases (hv 0 z).2 with q | ⟨_, q⟩
  · rw [q] at h
    cases h
  · exact q rfl
theorem SR.wipe {e : Lc} {σ : L2.St} {H : Hp} (s : SR C e σ H) (hv : OkVs C vs) : SR C (wipeL e vs) (L2.wipe σ vs) H := by
  have out : ∀ {i : Nat}, i ∈ C.own → i ∉ vs := fun hi z => (hv _ z).1 hi
  refine ⟨by rw [wipeL_len, wipe_length]; exact s.len, fun i d hi he => ?_, fun i d hi he => ?_, fun i j a hi hj h1 h2 => ?_, fun i a hi h => ?_, s.ext, s.al, fun i a hi h => ?_, fun i a hi h => ?_, fun a h => ?_, s.pm⟩
  · rw [MO_wipe hv]
    rw [wipeL_get] at he
    by_cases h : i ∈ vs
    · rw [if_pos h] at he
      split at he <;> cases he
    · rw [if_neg h] at he
      rw [wipe_get h]
      exact s.val i d hi he
  · rw [MO_wipe hv]
    rw [wipeL_get, if_neg (out hi)] at he
    rw [wipe_get (out hi)]
    exact s.ow i d hi he
  · rw [wipe_get (out hi)] at h1
    rw [wipe_get (out hj)] at h2
    exact s.dist i j a hi hj h1 h2
  · rw [wipe_get (out hi)] at h
    exact s.fr i a hi h
  · rw [wipe_get (out hi)] at h
    exact s.nm i a hi h
  · rw [wipe_get (out hi)] at h
    exact s.alo i a hi h
  · rw [wipe_get (par_out hv h)]
    exact s.p0 a h
/-- into the block: the new list at q isn't touched by it -/
theorem SR.into {e : Lc} {σ : L2.St} {H : Hp} (s : SR C e σ H) {q : Addr} {o : HO} (hq : H q = none) : SR (C.b fun a => C.M a ∨ a = q) e σ (upd H q o) := by
  have x : Ext (MO C σ) H (upd H q o) := Ext.upd hq
  have mo : ∀ a, MO (C.b fun a => C.M a ∨ a = q) σ a → MO C σ a ∨ H a = none := fun a z => by
    rcases z with (z | z) | z
    · exact .inl (.inl z)
    · exact .inr (by rw [z]; exact hq)
    · exact .inl (.inr z)
  have kp : ∀ a u, H a = some u → upd H q o a = some u := fun a u h => by
    rw [upd_ne (ne_of_none h hq)]
    exact h
  refine ⟨s.len, fun i d hi he => ?_, fun i d hi he => ?_, s.dist, s.fr, fun a u h n => kp a u (s.ext a u h n), fun a h => ?_, fun i a hi h => ?_, fun i a hi h => (s.alo i a hi h).imp fun u z => kp a u z, s.p0, fun a h => (s.pm a h).imp fun u z => kp a u z⟩
  · obtain ⟨v, h1, h2⟩ := s.val i d hi he
    exact ⟨v, h1, IsD.step x mo _ _ h2⟩
  · obtain ⟨a, h1, h2⟩ := s.ow i d hi he
    exact ⟨a, h1, OwnD.step x mo h2 (kp a)⟩
  · rcases h with h | h
    · exact (s.al a h).imp fun u z => kp a u z
    · exact ⟨o, by rw [h]; exact upd_same⟩
  · rcases s.nm i a hi h with z | z
    · refine .inl fun y => y.elim z fun y => ?_
      obtain ⟨u, hu⟩ := s.alo i a hi h
      rw [y, hq] at hu
      cases hu
    · exact .inr z
/-- out of the block -/
theorem SR.out {e e' : Lc} {σ : L2.St} {H H' : Hp} {q : Addr} {ws : List V} (hv : OkVs C vs) (s : SR C e σ H) (hq : H q = none) (s' : SR (C.b fun a => C.M a ∨ a = q) e' (L2.wipe σ vs) H') (hq' : H' q = some (.lst ws)) (x : ∀ a u, H a = some u → (¬ OW C σ a ∨ Fx u) → H' a = some u) :
    SR C (keepL e e' vs) σ (Dn.era H' q) ∧ Ext (OW C σ) H (Dn.era H' q) := by
  have hv' : OkVs (C.b fun a => C.M a ∨ a = q) vs := hv
  have out : ∀ {i : Nat}, i ∈ C.own → i ∉ vs := fun hi z => (hv _ z).1 hi
  have le : e'.length = e.length := by rw [s'.len, wipe_length, s.len]
  have moq : ∀ a, MO C σ a → MO (C.b fun a => C.M a ∨ a = q) (L2.wipe σ vs) a := fun a z => by
    rw [MO_wipe hv']
    rcases z with z | z
    · exact .inl (.inl z)
    · exact .inr z
  have mq : MO (C.b fun a => C.M a ∨ a = q) (L2.wipe σ vs) q := .inl (.inr rfl)
  have nf : ¬ Fx (HO.lst ws) := fun z => z
  have x' : Ext (OW C σ) H (Dn.era H' q) := fun a u h n => by
    have ha : a ≠ q := ne_of_none h hq
    rw [era_ne ha]
    exact x a u h n
  refine ⟨⟨by rw [keepL_len, le, s.len], fun i d hi he => ?_, fun i d hi he => ?_, s.dist, s.fr, fun a u h n => ?_, fun a h => ?_, s.nm, fun i a hi h => ?_, s.p0, fun a h => ?_⟩, x'⟩
  · rw [keepL_get] at he
    by_cases h : i ∈ vs
    · rw [if_pos h] at he
      have he2 : e[i]? = some (some d) := by
        split at he
        · rename_i hl
          rw [le] at hl
          have z : e.getD i none = some d := Option.some.inj he
          rw [List.getD_eq_getElem?_getD, List.getElem?_eq_getElem hl] at z
          rw [List.getElem?_eq_getElem hl]
          exact congrArg some z
        · cases he
      obtain ⟨v, h1, h2⟩ := s.val i d hi he2
      exact ⟨v, h1, IsD.step x'.mo (fun _ z => .inl z) _ _ h2⟩
    · rw [if_neg h] at he
      obtain ⟨v, h1, h2⟩ := s'.val i d hi he
      rw [wipe_get h] at h1
      exact ⟨v, h1, IsD.era hq' nf mq moq _ _ h2⟩
  · rw [keepL_get, if_neg (out hi)] at he
    obtain ⟨a, h1, h2⟩ := s'.ow i d hi he
    rw [wipe_get (out hi)] at h1
    obtain ⟨u, hu⟩ := s.alo i a hi h1
    have ha : a ≠ q := ne_of_none hu hq
    refine ⟨a, h1, ?_⟩
    cases d with
    | lst ds =>
      obtain ⟨ys, h3, h4⟩ := h2
      exact ⟨ys, by rw [era_ne ha]; exact h3, IsDs.era hq' nf mq moq _ _ h4⟩
    | dct ks ds =>
      obtain ⟨ys, h3, h4, h5⟩ := h2
      exact ⟨ys, by rw [era_ne ha]; exact h3, h4, IsDs.era hq' nf mq moq _ _ h5⟩
    | _ => exact h2.elim
  · have h1 := s'.ext a u h n
    have ha : a ≠ q := fun z => by
      have h2 : H a = some u ∨ C.par = some a := by
        by_cases hp : C.par = some a
        · exact .inr hp
        · exact .inl (s.ext a u h (.inl hp))
      rcases h2 with h2 | h2
      · rw [z, hq] at h2
        cases h2
      · obtain ⟨u2, h3⟩ := s.pm a h2
        rw [z, hq] at h3
        cases h3
    rw [era_ne ha]
    exact h1
  · obtain ⟨u, hu⟩ := s.al a h
    have ha : a ≠ q := ne_of_none hu hq
    rw [era_ne ha]
    exact s'.al a (.inl h)
  · obtain ⟨u, hu⟩ := s.alo i a hi h
    have ha : a ≠ q := ne_of_none hu hq
    rw [era_ne ha]
    exact s'.alo i a hi (by rw [wipe_get (out hi)]; exact h)
  · obtain ⟨u, hu⟩ := s.pm a h
    have ha : a ≠ q := ne_of_none hu hq
    rw [era_ne ha]
    exact s'.pm a h
theorem extWr {M : Addr → Prop} {H : Hp} {q : Addr} {o o' : HO} (hM : M q) (h : H q = some o) (hx : ¬ Fx o) : Ext M H (upd H q o') := fun b u z n => by
  have hb : b ≠ q := fun y => by
    subst y
    rcases n with n | n
    · exact n hM
    · rw [h] at z
      cases z
      exact hx n
  rw [upd_ne hb]
  exact z
/-- what isn't touched by a body is changed -/
theorem SR.wrM {C : Ct} {e : Lc} {σ : L2.St} {H : Hp} (s : SR C e σ H) {q : Addr} {o o' : HO} (hM : C.M q) (hq : H q = some o) (hx : ¬ Fx o) (h0 : C.H0 q = none) (hp : C.par ≠ some q) : SR C e σ (upd H q o') := by
  have hm : MO C σ q := .inl hM
  have x : Ext (MO C σ) H (upd H q o') := extWr hm hq hx
  have kp : ∀ b u, H b = some u → ∃ u', upd H q o' b = some u' := fun b u z => by
    by_cases hb : b = q
    · exact ⟨_, by rw [hb]; exact upd_same⟩
    · exact ⟨u, by rw [upd_ne hb]; exact z⟩
  refine ⟨s.len, fun i d hi he => ?_, fun i d hi he => ?_, s.dist, s.fr, fun b u z n => ?_, fun b h => (s.al b h).elim fun u z => kp b u z, s.nm, fun i b hi h => (s.alo i b hi h).elim fun u z => kp b u z, s.p0, fun b h => (s.pm b h).elim fun u z => kp b u z⟩
  · obtain ⟨v, h1, h2⟩ := s.val i d hi he
    exact ⟨v, h1, IsD.step x (fun _ z => .inl z) _ _ h2⟩
  · obtain ⟨a, h1, h2⟩ := s.ow i d hi he
    have ha : a ≠ q := fun z => by
      subst z
      rcases s.nm i a hi h1 with y | y
      · exact y hM
      · exact hp y
    exact ⟨a, h1, OwnD.step x (fun _ z => .inl z) h2 fun u z => by rw [upd_ne ha]; exact z⟩
  · have hb : b ≠ q := fun y => by
      rw [y, h0] at z
      cases z
    rw [upd_ne hb]
    exact s.ext b u z n
theorem PG.exM {a : Expr} {α : Type} {t : α → TG} (h : ∀ m, PG X a (t m)) : PG X a (fun v σ H Q => ∃ m, t m v σ H Q) := ⟨fun pins s σ H v u Q I r ⟨m, hw⟩ => (h m).run pins s σ H v u Q I r hw⟩
theorem PE.exM {a : Expr} {α : Type} {t : α → TE} (h : ∀ m, PE X a (t m)) : PE X a (fun σ H Q => ∃ m, t m σ H Q) := ⟨fun pins s σ H Q I ⟨m, hw⟩ => (h m).run pins s σ H Q I hw⟩
theorem PTs.exM {a : List Expr} {α : Type} {t : α → TT} (h : ∀ m, PTs X a (t m)) : PTs X a (fun σ H Q => ∃ m, t m σ H Q) := ⟨fun pins s σ H Q I ⟨m, hw⟩ => (h m).run pins s σ H Q I hw⟩
def yesT : MD Bool := fun e => .ok (true, e)
theorem jts_nil : PTs X [] (tT C yesT) := ⟨fun pins s σ H Q I ⟨e, s', o⟩ => pts_nil.run pins s σ H Q I (o H (Ext.refl _ _) s')⟩
theorem jts_one {a : Expr} {t : MD Bool} (h : PT X a (tT C t)) : PTs X [a] (tT C t) := pts_one h
theorem lcS_len {g : GD} {t : MD Bool} {el : MD D} : ∀ (ds : List D) (e : Lc) (r : List D × Lc), lcS vs g t el ds e = .ok r → r.1.length ≤ ds.length
  | [], e, r, h => by
    cases h
    exact Nat.le_refl _
  | d :: ds, e, r, h => by
    unfold lcS at h
    cases e1 : noX (g d e) with
    | bad => rw [e1] at h; cases h
    | exc x l => rw [e1] at h; cases h
    | ok e2 =>
      rw [e1] at h
      dsimp only [R.bind_ok] at h
      cases e3 : noX (t e2) with
      | bad => rw [e3] at h; cases h
      | exc x l => rw [e3] at h; cases h
      | ok p =>
        rw [e3] at h
        dsimp only [R.bind_ok] at h
        split at h
        · cases e4 : noX (el p.2) with
          | bad => rw [e4] at h; cases h
          | exc x l => rw [e4] at h; cases h
          | ok q =>
            rw [e4] at h
            dsimp only [R.bind_ok] at h
            cases e5 : lcS vs g t el ds (wipeL q.2 vs) with
            | bad => rw [e5] at h; cases h
            | exc x l => rw [e5] at h; cases h
            | ok r' =>
              rw [e5] at h
              cases h
              exact Nat.succ_le_succ (lcS_len ds _ _ e5)
        · exact Nat.le_succ_of_le (lcS_len ds _ _ h)
theorem Out.any {α : Type} {P : α → Prop} {E E' : Ex → Lc → Prop} {r : R α} (h : Out P E r) (n : ∀ x e, r ≠ .exc x e) : Out P E' r := by
  cases r with
  | ok a => exact h
  | exc x e => exact absurd rfl (n x e)
  | bad => exact h
theorem noX_nx {α : Type} (r : R α) (x : Ex) (e : Lc) : noX r ≠ .exc x e := by
  cases r <;> simp [noX]
theorem lcS_nx {g : GD} {t : MD Bool} {el : MD D} : ∀ (ds : List D) (e : Lc) (x : Ex) (l : Lc), lcS vs g t el ds e ≠ .exc x l
  | [], e, x, l => by simp [lcS]
  | d :: ds, e, x, l => by
    unfold lcS
    cases e1 : noX (g d e) with
    | bad => simp
    | exc x' l' => exact absurd e1 (noX_nx _ _ _)
    | ok e2 =>
      dsimp only [R.bind_ok]
      cases e3 : noX (t e2) with
      | bad => simp
      | exc x' l' => exact absurd e3 (noX_nx _ _ _)
      | ok p =>
        dsimp only [R.bind_ok]
        split
        · cases e4 : noX (el p.2) with
          | bad => simp
          | exc x' l' => exact absurd e4 (noX_nx _ _ _)
          | ok q =>
            dsimp only [R.bind_ok]
            cases e5 : lcS vs g t el ds (wipeL q.2 vs) with
            | bad => simp
            | exc x' l' => exact absurd e5 (lcS_nx ds _ _ _)
            | ok r' => simp
        · exact lcS_nx ds _ _ _
theorem lc_go {σ : L2.St} {H : Hp} {Q : VK} {f : MD (List D)} {g : GD} {t : MD Bool} {el : MD D} (hv : OkVs C vs) (h : tF C (lcM vs f g t el) σ H Q) :
    tLc (tI C f) (fun v σ H Q => ∃ M', tGv (C.b M') vs g v σ H Q) (fun σ H Q => ∃ M', tT (C.b M') t σ H Q) (fun σ H Q => ∃ M', tE (C.b M') el σ H Q) vs σ H Q := by
  obtain ⟨e, s, o⟩ := h
  refine ⟨e, s, (Out.bind o).imp (fun p hp => ?_) fun _ _ z => z⟩
  obtain ⟨ds, e1⟩ := p
  intro J H1 x1 s1 it q hq
  dsimp only at hp s1 it
  by_cases hz : ds.length ≤ sizeLine
  · rw [if_pos hz] at hp
    have hv' : OkVs (C.b fun a => C.M a ∨ a = q) vs := hv
    have hp2 : Out (fun r => PF C σ H Q (r.1, keepL e1 r.2 vs)) (fun _ _ => False) (lcS vs g t el ds (wipeL e1 vs)) := (Out.any (Out.bind hp) (lcS_nx _ _)).imp (fun r z => z) fun _ _ z => z
    clear hp
    have q0 : C.H0 q = none := by
      cases z : C.H0 q with
      | none => rfl
      | some u =>
        by_cases hpq : C.par = some q
        · obtain ⟨u2, h2⟩ := s1.pm q hpq
          rw [hq] at h2
          cases h2
        · have := s1.ext q u z (.inl hpq)
          rw [hq] at this
          cases this
    have qp : C.par ≠ some q := fun z => by
      obtain ⟨u2, h2⟩ := s1.pm q z
      rw [hq] at h2
      cases h2
    have mq : ∀ τ, MO (C.b fun a => C.M a ∨ a = q) τ q := fun τ => .inl (.inr rfl)
    refine ⟨fun i m H' => m = ds.length - i ∧ i ≤ ds.length ∧ ∃ acc accV e', H' q = some (.lst accV) ∧ IsDs C.k H' (MO (C.b fun a => C.M a ∨ a = q) (L2.wipe σ vs)) acc accV ∧ acc.length ≤ i ∧ (∀ a u, H1 a = some u → (¬ OW C σ a ∨ Fx u) → H' a = some u) ∧
      SR (C.b fun a => C.M a ∨ a = q) e' (L2.wipe σ vs) H' ∧ Out (fun r => PF C σ H Q (acc ++ r.1, keepL e1 r.2 vs)) (fun _ _ => False) (lcS vs g t el (ds.drop i) e'),
      ⟨ds.length, rfl, Nat.zero_le _, [], [], wipeL e1 vs, upd_same, rfl, Nat.le_refl _, fun a u z _ => by rw [upd_ne (ne_of_none z hq)]; exact z, (s1.into hq).wipe hv', ?_⟩, ?_⟩
    · exact hp2
    · rintro i m H2 ⟨rfl, hi, acc, accV, e2, h1, h2, h3, x2, s2, o2⟩
      have xx : Ext (OW C σ) H1 H2 := x2
      by_cases hlt : i < ds.length
      · have hd : ds[i]? = some ds[i] := List.getElem?_eq_getElem hlt
        rw [List.drop_eq_getElem_cons hlt] at o2
        refine .inr ⟨it.go H2 i _ xx.mo hd, fun H' => ∃ acc accV e', H' q = some (.lst accV) ∧ IsDs C.k H' (MO (C.b fun a => C.M a ∨ a = q) (L2.wipe σ vs)) acc accV ∧ acc.length ≤ i + 1 ∧ (∀ a u, H1 a = some u → (¬ OW C σ a ∨ Fx u) → H' a = some u) ∧
          SR (C.b fun a => C.M a ∨ a = q) e' (L2.wipe σ vs) H' ∧ Out (fun r => PF C σ H Q (acc ++ r.1, keepL e1 r.2 vs)) (fun _ _ => False) (lcS vs g t el (ds.drop (i + 1)) e'), fun H' h => ⟨_, by omega, rfl, hlt, h⟩, fun x H3 hy => ?_⟩
        obtain ⟨k3, i3⟩ := it.yld H2 (MO (C.b fun a => C.M a ∨ a = q) (L2.wipe σ vs)) i _ x H3 xx.mo (fun a z => by
          rw [MO_wipe hv'] at z
          rcases z with (z | z) | z
          · exact .inl (.inl z)
          · exact .inr (by rw [z]; exact hq)
          · exact .inl (.inr z)) hd hy
        refine ⟨_, e2, ds[i], s2.same k3, i3, ?_⟩
        have o3 := noX_bind (E' := fun _ _ => False) (show Out _ _ ((noX (g ds[i] e2)).bind _) from o2)
        refine o3.imp (fun e3 o4 => ?_) fun _ _ z => z
        intro σ4 m4 w4 s4
        rw [wipe_sub vs fun _ z => z] at w4
        refine ⟨w4, _, e3, s4, ?_⟩
        refine (noX_bind o4).imp (fun pt o5 => ?_) fun _ _ z => z
        obtain ⟨b, e5⟩ := pt
        intro H5 x5 s5
        have ext1 : ∀ {Ha Hb : Hp}, Ext (OW (C.b fun a => C.M a ∨ a = q) σ4) Ha Hb → Ext (OW (C.b fun a => C.M a ∨ a = q) (L2.wipe σ vs)) Ha Hb := fun {Ha Hb} z => by
          rw [← m4]
          exact z
        have xq : ∀ {Ha Hb : Hp}, Ext (OW (C.b fun a => C.M a ∨ a = q) (L2.wipe σ vs)) Ha Hb → ∀ a u, H1 a = some u → (¬ OW C σ a ∨ Fx u) → Ha a = some u → Hb a = some u := fun {Ha Hb} y a u z n w => y a u w (n.imp (fun n z2 => by
          rw [OW_wipe hv'] at z2
          exact n z2) id)
        have nq : ∀ τ (H' : Hp) (e' : Lc), SR (C.b fun a => C.M a ∨ a = q) e' τ H' → ¬ OW (C.b fun a => C.M a ∨ a = q) τ q := fun τ H' e' s' ⟨j, hj, z⟩ => by
          rcases s'.nm j q hj z with y | y
          · exact y (.inr rfl)
          · exact qp y
        have x5' := ext1 x5
        have h15 : H5 q = some (.lst accV) := x5' q _ (k3 _ _ h1) (.inl (nq _ _ _ s2))
        have i25 := IsDs.step x5'.mo (fun _ z => .inl z) _ _ (IsDs.step (same_ext k3) (fun _ z => .inl z) _ _ h2)
        cases b with
        | false =>
          refine iteF ⟨acc, accV, wipeL e5 vs, h15, i25, Nat.le_succ_of_le h3, fun a u z n => xq x5' a u z n (k3 _ _ (x2 a u z n)), ?_, o5⟩
          rw [← w4]
          exact s5.wipe hv'
        | true =>
          refine iteT ⟨_, e5, s5, ?_⟩
          refine (noX_bind (E' := fun _ _ => False) o5).imp (fun pq o6 => ?_) fun _ _ z => z.elim
          obtain ⟨d7, e7⟩ := pq
          intro y H7 x7 s7 i7
          have x7' := ext1 x7
          have h17 : H7 q = some (.lst accV) := x7' q _ h15 (.inl (nq _ _ _ s2))
          have i27 := IsDs.step x7'.mo (fun _ z => .inl z) _ _ i25
          have mm : MO (C.b fun a => C.M a ∨ a = q) σ4 = MO (C.b fun a => C.M a ∨ a = q) (L2.wipe σ vs) := MO_of m4
          rw [mm] at i7
          have wr : Ext (MO (C.b fun a => C.M a ∨ a = q) (L2.wipe σ vs)) H7 (upd H7 q (.lst (accV ++ [y]))) := extWr (mq _) h17 fun z => z
          have ha : accV.length = acc.length := i27.length
          refine ⟨accV, h17, by omega, acc ++ [d7], accV ++ [y], wipeL e7 vs, upd_same, IsDs.step wr (fun _ z => .inl z) _ _ (i27.app (.cons i7 .nil)), by rw [List.length_append]; exact Nat.succ_le_succ h3, fun a u z n => ?_, ?_, ?_⟩
          · rw [upd_ne (ne_of_none z hq)]
            exact xq x7' a u z n (xq x5' a u z n (k3 _ _ (x2 a u z n)))
          · rw [← w4]
            exact (s7.wrM (.inr rfl) h17 (fun z => z) q0 qp).wipe hv'
          · refine (Out.bind o6).imp (fun r hr => ?_) fun _ _ z => z
            rw [List.append_assoc]
            exact hr
      · have ei : i = ds.length := by omega
        subst ei
        rw [List.drop_length] at o2
        have hfin : PF C σ H Q (acc ++ [], keepL e1 e2 vs) := o2
        rw [List.append_nil] at hfin
        obtain ⟨s9, x9⟩ := SR.out hv s1 hq s2 h1 x2
        have mq2 : ∀ a, MO C σ a → MO (C.b fun a => C.M a ∨ a = q) (L2.wipe σ vs) a := fun a z => by
          rw [MO_wipe hv']
          rcases z with z | z
          · exact .inl (.inl z)
          · exact .inr z
        have fin := hfin accV (Dn.era H2 q) q (x1.trans x9) s9 (IsDs.era h1 (fun z => z) (mq _) mq2 _ _ h2) era_same
        rw [era_upd h1] at fin
        exact .inl ⟨it.stop H2 xx.mo, fin⟩
  · rw [if_neg hz] at hp
    exact hp.elim
theorem jf_lc {elt tg iter : Expr} {ifs : List Expr} {scope : Scope} {own : List (Str × Nat)} {f : MD (List D)} {g : GD} {t : MD Bool} {el : MD D} (hc : X.calm = true) (hN : X.N.Nodup) (hv : OkVs C (own.map (·.2))) (hi : PI X tg iter (tI C f)) (ok : BlkOk X.N X.env.scope scope own)
    (hg : ∀ (M' : Addr → Prop) (s : Shared) (H : Hp) (Ca : Addr) (cl : List (Str × Addr)) (fp : List Addr), PG (X.blk s H scope (compEnvC scope cl Ca X.env) fp) tg (tGv (C.b M') (own.map (·.2)) g))
    (ht : ∀ (M' : Addr → Prop) (s : Shared) (H : Hp) (Ca : Addr) (cl : List (Str × Addr)) (fp : List Addr), PTs (X.blk s H scope (compEnvC scope cl Ca X.env) fp) ifs (tT (C.b M') t))
    (he : ∀ (M' : Addr → Prop) (s : Shared) (H : Hp) (Ca : Addr) (cl : List (Str × Addr)) (fp : List Addr), PE (X.blk s H scope (compEnvC scope cl Ca X.env) fp) elt (tE (C.b M') el)) (hs : ∀ x, foldedSetIterable iter X.env x = pure x := by intro _; rfl) :
    PE X (.ListComp elt [⟨tg, iter, ifs, 0⟩] scope pos) (tF C (lcM (own.map (·.2)) f g t el)) :=
  PE.imp (pe_lc hc hN hi ok (fun s H Ca cl fp => PG.exM fun M' => hg M' s H Ca cl fp) (fun s H Ca cl fp => PTs.exM fun M' => ht M' s H Ca cl fp) (fun s H Ca cl fp => PE.exM fun M' => he M' s H Ca cl fp) hs) fun σ H Q h => lc_go hv h
end
end Dn

namespace Dn
open PySem PySem.Spec PyProof.Rows L2

/-! ### what a def promises, over data -/
/-- a new list at v, behind a run from H to H' -/
def RN (k : Kx) (M : Addr → Prop) (H H' : Hp) (d : D) (v : V) : Prop := ∃ ds q vs, d = .lst ds ∧ v = .ref q ∧ H q = none ∧ H' q = some (.lst vs) ∧ IsDs k (era H' q) M ds vs
def PFn (k : Kx) (nw : Bool) (M : Addr → Prop) (H : Hp) (Q : VK) (E : XK) (r : R D) : Prop := Out (fun d => ∀ v H', Same H H' → IsD k H' M d v → (nw = true → RN k M H H' d v) → Q v H') (fun x _ => ∀ cls xd H', Same H H' → ExR k M x cls xd H' → E cls xd H') r
/-- a def: plain data in, plain data out; nw: what it gives is a new list -/
def spP (k : Kx) (n : Nat) (nw : Bool) (F : List D → R D) : Sp := fun vs H Q E => ∃ (M : Addr → Prop) (ds : List D), vs.length = n ∧ IsDs k H M ds vs ∧ (∀ a, M a → ∃ o, H a = some o) ∧ PFn k nw M H Q E (F ds)
/-- one that changes its first argument, a list -/
def PIn (k : Kx) (nw : Bool) (M : Addr → Prop) (a : Addr) (H : Hp) (Q : VK) (r : R (D × D)) : Prop :=
  Out (fun p => ∀ v H', Ext (fun b => b = a) H H' → OwnD k H' M p.2 a → IsD k H' M p.1 v → (nw = true → RN k M H H' p.1 v ∧ ∀ q, v = .ref q → OwnD k (era H' q) M p.2 a) → Q v H') (fun _ _ => False) r
def spI (k : Kx) (n : Nat) (nw : Bool) (F : D → List D → R (D × D)) : Sp := fun vs H Q E => ∃ (M : Addr → Prop) (a : Addr) (d0 : D) (ds : List D) (vr : List V), vs = .ref a :: vr ∧ vs.length = n ∧ M a ∧ OwnD k H M d0 a ∧ IsDs k H M ds vr ∧ (∀ b, M b → ∃ o, H b = some o) ∧
  PIn k nw M a H Q (F d0 ds)
def startL (N : Nat) (ds : List D) : Lc := ds.map some ++ List.replicate (N - ds.length) none
def runB (N : Nat) (nw : Bool) (fb : MS) (ds : List D) : R D := match fb (startL N ds) with
  | .ok (.rt d, _) => .ok d
  | .ok (.nx, _) => if nw then .bad else .ok .non
  | .exc x _ => .exc x []
  | _ => .bad
def runI (N : Nat) (nw : Bool) (fb : MS) (d0 : D) (ds : List D) : R (D × D) := match fb (startL N (d0 :: ds)) with
  | .ok (.rt d, e) => match e[0]? with
    | some (some d1) => .ok (d, d1)
    | _ => .bad
  | .ok (.nx, e) => match e[0]? with
    | some (some d1) => if nw then .bad else .ok (.non, d1)
    | _ => .bad
  | _ => .bad
section
variable {k : Kx} {M : Addr → Prop} {H : Hp} {N : Nat} {ds : List D} {vs : List V} {fb : MS} {own : List Nat} {W : WX} {nw : Bool}
theorem startL_get (i : Nat) : (startL N ds)[i]? = if i < ds.length then (ds[i]?).map some else if i < ds.length + (N - ds.length) then some none else none := by
  unfold startL
  by_cases h : i < ds.length
  · rw [if_pos h, List.getElem?_append_left (by rw [List.length_map]; exact h), List.getElem?_map]
  · rw [if_neg h, List.getElem?_append_right (by rw [List.length_map]; omega), List.length_map, List.getElem?_replicate]
    by_cases h2 : i < ds.length + (N - ds.length)
    · rw [if_pos h2, if_pos (by omega)]
    · rw [if_neg h2, if_neg (by omega)]
theorem start_get {Ns : List Str} (i : Nat) : (L2.start Ns vs)[i]? = if i < vs.length then (vs[i]?).map some else if i < vs.length + (Ns.length - vs.length) then some none else none := by
  unfold L2.start
  by_cases h : i < vs.length
  · rw [if_pos h, List.getElem?_append_left (by rw [List.length_map]; exact h), List.getElem?_map]
  · rw [if_neg h, List.getElem?_append_right (by rw [List.length_map]; omega), List.length_map, List.getElem?_replicate]
    by_cases h2 : i < vs.length + (Ns.length - vs.length)
    · rw [if_pos h2, if_pos (by omega)]
    · rw [if_neg h2, if_neg (by omega)]
theorem sr_start {Ns : List Str} (hN : Ns.length = N) (hl : vs.length = ds.length) (ho : ∀ i ∈ own, ds.length ≤ i) (i1 : IsDs k H M ds vs) (al : ∀ a, M a → ∃ o, H a = some o) : SR ⟨k, own, none, M, H, W, nw⟩ (startL N ds) (L2.start Ns vs) H := by
  have no : ∀ i (v : V), i ∈ own → (L2.start Ns vs)[i]? ≠ some (some v) := fun i v hi h => by
    rw [start_get, if_neg (by have := ho i hi; omega)] at h
    split at h <;> cases h
  have mo : ∀ a, MO ⟨k, own, none, M, H, W, nw⟩ (L2.start Ns vs) a → M a := fun a z => by
    rcases z with z | ⟨i, hi, z⟩
    · exact z
    · exact absurd z (no i _ hi)
  refine ⟨?_, fun i d hi he => ?_, fun i d hi he => ?_, fun i j a hi hj h1 h2 => absurd h1 (no i _ hi), fun i a hi h => absurd h (no i _ hi), fun a o h _ => h, al, fun i a hi h => absurd h (no i _ hi), fun i a hi h => absurd h (no i _ hi), fun a h => (by cases h), fun a h => (by cases h)⟩
  · unfold startL L2.start
    rw [List.length_append, List.length_append, List.length_map, List.length_map, List.length_replicate, List.length_replicate, hl, hN]
  · rw [startL_get] at he
    by_cases h : i < ds.length
    · rw [if_pos h] at he
      cases e0 : ds[i]? with
      | none =>
        rw [e0] at he
        cases he
      | some d0 =>
        rw [e0] at he
        cases he
        obtain ⟨v, h1, h2⟩ := i1.get e0
        refine ⟨v, ?_, h2.mono mo⟩
        rw [start_get, if_pos (by omega), h1]
        rfl
    · rw [if_neg h] at he
      split at he <;> cases he
  · rw [startL_get, if_neg (by have := ho i hi; omega)] at he
    split at he <;> cases he
/-- a def's body keeps the promise -/
theorem body_P {Ns : List Str} {Q : VK} {E : XK} (hN : Ns.length = N) (hl : vs.length = ds.length) (ho : ∀ i ∈ own, ds.length ≤ i) (i1 : IsDs k H M ds vs) (al : ∀ a, M a → ∃ o, H a = some o) (h : PFn k nw M H Q E (runB N nw fb ds)) :
    tS ⟨k, own, none, M, H, fun cls d _ H' => E cls d H', nw⟩ fb { nx := fun _ H' => Q .non H', rt := Q } (L2.start Ns vs) H := by
  refine ⟨startL N ds, sr_start hN hl ho i1 al, ?_⟩
  have same : ∀ {e : Lc} {H' : Hp}, SE ⟨k, own, none, M, H, fun cls d _ H' => E cls d H', nw⟩ e H' → Same H H' := fun s a o q => s.ext a o q (.inl fun z => by cases z)
  unfold runB at h
  cases e0 : fb (startL N ds) with
  | bad =>
    rw [e0] at h
    exact h.elim
  | exc x e =>
    rw [e0] at h
    exact fun cls xd σ' H' _ s' r => (h cls xd H' (same s'.se) ⟨r.1, r.2.imp id fun ⟨d, fs, a, b, c⟩ => ⟨d, fs, a, b, c.mono fun _ z => .inl z⟩⟩)
  | ok p =>
    rw [e0] at h
    obtain ⟨fl, e⟩ := p
    cases fl with
    | nx =>
      cases nw with
      | true => exact h.elim
      | false => exact fun σ' H' _ s' => h .non H' (same s'.se) rfl fun z => by cases z
    | rt d =>
      exact fun v H' s' iv nn => h v H' (same s') iv fun z => by
        obtain ⟨ds', q, vs', h1, h2, h3, h4, h5, _⟩ := nn z
        exact ⟨ds', q, vs', h1, h2, h3, h4, h5⟩
    | bk => exact h.elim
    | ct => exact h.elim
theorem sr_startI {Ns : List Str} {a : Addr} {d0 : D} {vr : List V} (hN : Ns.length = N) (hN1 : 1 ≤ N) (hl : vr.length = ds.length) (ho : ∀ i ∈ own, i = 0 ∨ ds.length + 1 ≤ i) (h0 : 0 ∈ own) (hM : M a) (od : OwnD k H M d0 a) (i1 : IsDs k H M ds vr) (al : ∀ a, M a → ∃ o, H a = some o) : SR ⟨k, own, some a, M, H, W, nw⟩ (startL N (d0 :: ds)) (L2.start Ns (.ref a :: vr)) H := by
  have hz : (L2.start Ns (V.ref a :: vr))[0]? = some (some (.ref a)) := rfl
  have no : ∀ i (v : V), i ∈ own → (L2.start Ns (V.ref a :: vr))[i]? = some (some v) → i = 0 ∧ v = .ref a := fun i v hi h => by
    rcases ho i hi with z | z
    · subst z
      rw [hz] at h
      cases h
      exact ⟨rfl, rfl⟩
    · rw [start_get, if_neg (by rw [List.length_cons]; omega)] at h
      split at h <;> cases h
  have mo : ∀ b, MO ⟨k, own, some a, M, H, W, nw⟩ (L2.start Ns (V.ref a :: vr)) b → M b := fun b z => by
    rcases z with z | ⟨i, hi, z⟩
    · exact z
    · obtain ⟨_, e⟩ := no i _ hi z
      cases e
      exact hM
  refine ⟨?_, fun i d hi he => ?_, fun i d hi he => ?_, fun i j b hi hj h1 h2 => ((no i _ hi h1).1).trans ((no j _ hj h2).1).symm, fun i b hi h => .inr ?_, fun b o h _ => h, al, fun i b hi h => .inr ?_, fun i b hi h => ?_, fun b h => ?_, fun b h => ?_⟩
  · unfold startL L2.start
    rw [List.length_append, List.length_append, List.length_map, List.length_map, List.length_replicate, List.length_replicate, List.length_cons, List.length_cons, hl, hN]
  · rw [startL_get] at he
    have hi0 : i ≠ 0 := fun z => hi (by rw [z]; exact h0)
    obtain ⟨j, rfl⟩ : ∃ j, i = j + 1 := ⟨i - 1, by omega⟩
    by_cases h : j + 1 < (d0 :: ds).length
    · rw [if_pos h] at he
      rw [List.getElem?_cons_succ] at he
      cases e0 : ds[j]? with
      | none =>
        rw [e0] at he
        cases he
      | some d1 =>
        rw [e0] at he
        cases he
        obtain ⟨v, h1, h2⟩ := i1.get e0
        refine ⟨v, ?_, h2.mono mo⟩
        rw [start_get, if_pos (by rw [List.length_cons] at h ⊢; omega), List.getElem?_cons_succ, h1]
        rfl
    · rw [if_neg h] at he
      split at he <;> cases he
  · rcases ho i hi with z | z
    · subst z
      have e1 : d = d0 := by
        have e2 : (startL N (d0 :: ds))[0]? = some (some d0) := rfl
        rw [e2] at he
        cases he
        rfl
      subst e1
      exact ⟨a, hz, OwnD.step (Ext.refl _ _) (fun b z => .inl (mo b z)) od fun _ q => q⟩
    · rw [startL_get, if_neg (by rw [List.length_cons]; omega)] at he
      split at he <;> cases he
  · exact congrArg some (V.ref.inj (no i _ hi h).2).symm
  · exact congrArg some (V.ref.inj (no i _ hi h).2).symm
  · obtain ⟨_, e⟩ := no i _ hi h
    cases e
    exact al _ hM
  · cases h
    exact hz
  · cases h
    exact al a hM
theorem body_I {Ns : List Str} {Q : VK} {E : XK} {a : Addr} {d0 : D} {vr : List V} (hN : Ns.length = N) (hN1 : 1 ≤ N) (hl : vr.length = ds.length) (ho : ∀ i ∈ own, i = 0 ∨ ds.length + 1 ≤ i) (h0 : 0 ∈ own) (hM : M a) (od : OwnD k H M d0 a) (i1 : IsDs k H M ds vr) (al : ∀ a, M a → ∃ o, H a = some o)
    (h : PIn k nw M a H Q (runI N nw fb d0 ds)) :
    tS ⟨k, own, some a, M, H, fun _ _ _ _ => False, nw⟩ fb { nx := fun _ H' => Q .non H', rt := Q } (L2.start Ns (.ref a :: vr)) H := by
  refine ⟨startL N (d0 :: ds), sr_startI hN hN1 hl ho h0 hM od i1 al, ?_⟩
  have ext : ∀ {e : Lc} {H' : Hp}, SE ⟨k, own, some a, M, H, fun _ _ _ _ => False, nw⟩ e H' → Ext (fun b => b = a) H H' := fun s b o q n => s.ext b o q (n.imp (fun n z => n (Option.some.inj z).symm) id)
  have own' : ∀ {e : Lc} {H' : Hp} {d1 : D}, SE ⟨k, own, some a, M, H, fun _ _ _ _ => False, nw⟩ e H' → e[0]? = some (some d1) → OwnD k H' M d1 a := fun {e H' d1} s q => s.own0 a rfl d1 q h0
  unfold runI at h
  cases e0 : fb (startL N (d0 :: ds)) with
  | bad =>
    rw [e0] at h
    exact h.elim
  | exc x e =>
    rw [e0] at h
    exact h.elim
  | ok p =>
    rw [e0] at h
    obtain ⟨fl, e⟩ := p
    cases fl with
    | nx =>
      dsimp only at h
      split at h
      · rename_i d1 q
        cases nw with
        | true => exact h.elim
        | false => exact fun σ' H' _ s' => h .non H' (ext s'.se) (own' s'.se q) rfl fun z => by cases z
      · exact h.elim
    | rt d =>
      dsimp only at h
      split at h
      · rename_i d1 q
        exact fun v H' s' iv nn => h v H' (ext s') (own' s' q) iv fun z => by
          obtain ⟨ds', q', vs', h1, h2, h3, h4, h5, h6⟩ := nn z
          exact ⟨⟨ds', q', vs', h1, h2, h3, h4, h5⟩, fun q2 e2 => by
            rw [h2] at e2
            cases e2
            exact h6 a rfl d1 q h0⟩
      · exact h.elim
    | bk => exact h.elim
    | ct => exact h.elim
end

/-! ### calls -/
def calM (F : List D → R D) (dd : List D) (fa : MD (List D)) : MD D := fun e => (fa e).bind fun p => (F (p.1 ++ dd)).at p.2
/-- keywords: g puts the positional data and the keywords' in order -/
def calK (F : List D → R D) (g : List D → List D → List D) (fa fk : MD (List D)) : MD D := fun e => (fa e).bind fun p => (fk p.2).bind fun q => (F (g p.1 q.1)).at q.2
def calI (F : D → List D → R (D × D)) (i : Nat) (fa : MD (List D)) : MD D := fun e => match e[i]? with
  | some (some _) => (fa e).bind fun p => match p.2[i]? with
    | some (some d0) => (noX (F d0 p.1)).bind fun r => .ok (r.1, p.2.set i (some r.2))
    | _ => .bad
  | _ => .bad
section
variable {X : Cx} {C : Ct} {CX : CXT} {lv n : Nat} {nw : Bool} {fa0 : Addr} {fd : FuncData} {ps ks : List Str} {x y : Str} {p pos px : Pos} {a : Expr} {es : List Expr} {kws : List Keyword}
/-- what a callee lets out is taken here -/
def PX (CX : CXT) (X : Cx) (C : Ct) : Prop := ∀ σ, PassesAt CX X σ (fun cls d H => C.W cls d σ H)
theorem px0 : PX CX0 X C := fun σ _ _ _ _ _ _ h => h.elim
/-- values that are data in every heap -/
def Cst (k : Kx) (dd : List D) (dv : List V) : Prop := ∀ H M, IsDs k H M dd dv
theorem je_call {F : List D → R D} {dd : List D} {dv : List V} {dvs : List Value} {fa : MD (List D)} (G : FnOk X.prog X.w X.K X.mg X.base CX lv fa0 fd ps (spP C.k n nw F)) (hr : Room lv X.A) (hg : Gl X x) (hm : X.mg x = some (.ref fa0)) (hk : PySem.W.keepIn X.K (.ref fa0) = true)
    (hb : Binds X.K fd ps dvs) (hd : Vals dv dvs) (hc : Cst C.k dd dv) (hx : PX CX X C) (hl : (a :: es).length + dd.length = n) (hlen : ∀ e r, fa e = .ok r → r.1.length = (a :: es).length) (ha : PA X (a :: es) (tA C fa)) (hdb : (x == ("__debug__" : Str)) = false := by decide)
    (he : starEach (a :: es) X.env = (false, eval a X.env) :: starEach es X.env := by rfl) (hpl : (backTo pos (starEach es X.env)).any (·.1) = false := by rfl) : PE X (.Call (.Name x p) (a :: es) [] pos) (tE C (calM F dd fa)) := by
  refine PE.imp (pe_callSD G hr hg hm hk hb hd hx ha hdb he hpl) fun σ H Q ⟨e, s, o⟩ => ⟨e, s, ?_⟩
  have o1 := Out.bind o
  cases e0 : fa e with
  | bad =>
    rw [e0] at o1
    exact o1.elim
  | exc z l =>
    rw [e0] at o1
    exact o1
  | ok q =>
    rw [e0] at o1
    intro vs H1 x1 s1 i1
    have hq := hlen e q e0
    refine ⟨MO C σ, q.1 ++ dd, ?_, i1.app (hc H1 _), fun b z => s1.mod z, ?_⟩
    · rw [List.length_append, i1.length, hq, (hc H1 fun _ => False).length]
      exact hl
    · have o2 : Out (PO1 C σ H Q) (XO C σ H) ((F (q.1 ++ dd)).at q.2) := o1
      cases e1 : F (q.1 ++ dd) with
      | bad =>
        rw [e1] at o2
        exact o2.elim
      | exc z l =>
        rw [e1] at o2
        exact fun cls xd H2 k2 r => o2 cls xd H2 (x1.trans (same_ext k2)) (s1.same k2) r
      | ok d =>
        rw [e1] at o2
        exact fun v H2 k2 iv _ => o2 v H2 (x1.trans (same_ext k2)) (s1.same k2) iv
theorem SR.io {e : Lc} {σ : L2.St} {H H' : Hp} (s : SR C e σ H) {i : Nat} (hi : i ∈ C.own) {b : Addr} {d d' : D} (ha : σ[i]? = some (some (.ref b))) (h0 : OwnD C.k H (MO C σ) d b) (x : Ext (fun c => c = b) H H') (od : OwnD C.k H' (MO C σ) d' b) : SR C (e.set i (some d')) σ H' ∧ Ext (OW C σ) H H' := by
  have hmb : OW C σ b := ⟨i, hi, ha⟩
  have nf : ∀ o, H b = some o → ¬ Fx o := fun o h f => by
    cases d with
    | lst ds =>
      obtain ⟨vs, h1, _⟩ := h0
      rw [h] at h1
      cases h1
      exact f
    | dct ks ds =>
      obtain ⟨vs, h1, _⟩ := h0
      rw [h] at h1
      cases h1
      exact f
    | _ => exact h0.elim
  have there : ∃ o, H' b = some o := by
    cases d' with
    | lst ds =>
      obtain ⟨vs, h1, _⟩ := od
      exact ⟨_, h1⟩
    | dct ks ds =>
      obtain ⟨vs, h1, _⟩ := od
      exact ⟨_, h1⟩
    | _ => exact od.elim
  have kn : ∀ c u, c ≠ b → H c = some u → H' c = some u := fun c u hc q => x c u q (.inl hc)
  have kp : ∀ c u, H c = some u → ∃ u', H' c = some u' := fun c u q => by
    by_cases hc : c = b
    · rw [hc]
      exact there
    · exact ⟨u, kn c u hc q⟩
  have xx : Ext (OW C σ) H H' := fun c u q n => by
    have hc : c ≠ b := fun z => by
      subst z
      rcases n with n | n
      · exact n hmb
      · exact nf u q n
    exact kn c u hc q
  refine ⟨⟨by rw [List.length_set]; exact s.len, fun j d1 hj he => ?_, fun j d1 hj he => ?_, s.dist, s.fr, fun c u q n => ?_, fun c h => (s.al c h).elim fun u q => kp c u q, s.nm, fun j c hj h => (s.alo j c hj h).elim fun u q => kp c u q, s.p0, fun c h => (s.pm c h).elim fun u q => kp c u q⟩, xx⟩
  · have hji : i ≠ j := fun z => hj (by rw [← z]; exact hi)
    rw [List.getElem?_set_ne hji] at he
    obtain ⟨v, h1, h2⟩ := s.val j d1 hj he
    exact ⟨v, h1, IsD.step xx.mo (fun _ z => .inl z) _ _ h2⟩
  · by_cases hji : i = j
    · subst hji
      have hl : i < e.length := by
        have := (List.getElem?_eq_some_iff.mp he).1
        rwa [List.length_set] at this
      rw [List.getElem?_set_self hl] at he
      cases he
      exact ⟨b, ha, od⟩
    · rw [List.getElem?_set_ne hji] at he
      obtain ⟨c, h1, h2⟩ := s.ow j d1 hj he
      have hc : c ≠ b := fun z => hji (s.dist i j b hi hj ha (by rw [← z]; exact h1))
      exact ⟨c, h1, OwnD.step xx.mo (fun _ z => .inl z) h2 fun u q => kn c u hc q⟩
  · have h1 := s.ext c u q n
    by_cases hc : c = b
    · subst hc
      rcases n with n | n
      · rcases s.fr i c hi ha with z | z
        · rw [z] at q
          cases q
        · exact absurd z n
      · exact absurd n (nf u h1)
    · exact kn c u hc h1
end
end Dn

namespace Dn
open PySem PySem.Spec PyProof.Rows L2
section
variable {X : Cx} {C : Ct} {CX : CXT} {lv n m : Nat} {nw : Bool} {fa0 : Addr} {fd : FuncData} {ps ks : List Str} {x y : Str} {p pos px : Pos} {a : Expr} {es : List Expr} {kws : List Keyword}
/-- f(x, e, ..): x a list of one's own, changed by f -/
theorem je_callI {i : Nat} {F : D → List D → R (D × D)} {fa : MD (List D)} (G : FnOk X.prog X.w X.K X.mg X.base CX0 lv fa0 fd ps (spI C.k n nw F)) (hr : Room lv X.A) (hg : Gl X x) (hm : X.mg x = some (.ref fa0)) (hk : PySem.W.keepIn X.K (.ref fa0) = true)
    (hb : Binds X.K fd ps []) (hl : es.length + 1 = n) (hlen : ∀ e r, fa e = .ok r → r.1.length = es.length) (ho : i ∈ C.own) (hN : X.N[i]? = some y) (hv : Vis X.env.scope y) (ha : PA X es (tA C fa)) (hdb : (x == ("__debug__" : Str)) = false := by decide)
    (hd : (y == ("__debug__" : Str)) = false := by decide) (hcd : (y == ("__classdict__" : Str)) = false := by decide)
    (he : starEach (.Name y px :: es) X.env = (false, eval (.Name y px) X.env) :: starEach es X.env := by rfl) (hpl : (backTo pos (starEach es X.env)).any (·.1) = false := by rfl) : PE X (.Call (.Name x p) (.Name y px :: es) [] pos) (tE C (calI F i fa)) := by
  refine PE.imp (pe_callSD (E := fun _ _ _ _ => False) G hr hg hm hk hb .nil (fun σ _ _ _ _ _ _ h => h.elim) (pa_cons (pe_var hN hv hd hcd) ha he) hdb he hpl) fun σ H Q ⟨e, s, o⟩ => ?_
  unfold calI at o
  split at o
  · rename_i d00 h00
    obtain ⟨b, h1, h2⟩ := s.ow i _ ho h00
    refine ⟨.ref b, h1, e, s, ?_⟩
    have o1 := Out.bind o
    cases e0 : fa e with
    | bad =>
      rw [e0] at o1
      exact o1.elim
    | exc z l =>
      rw [e0] at o1
      exact o1
    | ok q =>
      rw [e0] at o1
      intro vs H1 x1 s1 i1
      have hq := hlen e q e0
      have o2 : Out (PO1 C σ H Q) (XO C σ H) (match q.2[i]? with
        | some (some d0) => (noX (F d0 q.1)).bind fun r => .ok (r.1, q.2.set i (some r.2))
        | _ => .bad) := o1
      split at o2
      · rename_i d0 hd0
        obtain ⟨b', h3, h4⟩ := s1.ow i _ ho hd0
        have eb : b' = b := by
          rw [h1] at h3
          cases h3
          rfl
        subst eb
        refine ⟨MO C σ, b', d0, q.1, vs, by rw [List.append_nil], ?_, .inr ⟨i, ho, h1⟩, h4, i1, fun c z => s1.mod z, ?_⟩
        · rw [List.append_nil, List.length_cons, i1.length, hq]
          exact hl
        · refine (noX_bind (E' := fun _ _ => False) o2).imp (fun r hr v H2 x2 od iv _ => ?_) fun _ _ z => z
          obtain ⟨s3, x3⟩ := s1.io ho h1 h4 x2 od
          exact hr v H2 (x1.trans x3) s3 iv
      · exact o2.elim
  · exact o.elim
theorem PK.imp {t t' : TA} (h : PK X kws t) (i : ∀ σ H Q, t' σ H Q → t σ H Q) : PK X kws t' := ⟨fun pos pins s σ H Q I hw => h.run pos pins s σ H Q I (i σ H Q hw)⟩
theorem jk_nil : PK X [] (tA C nilA) := PK.imp pk_nil fun σ H Q ⟨e, s, o⟩ => o [] H (Ext.refl _ _) s .nil
theorem jk_cons {f : MD D} {fa : MD (List D)} {nm : Option Str} {kpos : Pos} (ha : PE X a (tE C f)) (hr : PK X kws (tA C fa)) : PK X (⟨nm, a, kpos⟩ :: kws) (tA C (consA f fa)) := by
  refine PK.imp (pk_cons ha hr) fun σ H Q ⟨e, s, o⟩ => ⟨e, s, (Out.bind o).imp (fun p hp => ?_) fun _ _ z => z⟩
  intro v H1 x1 s1 i1
  refine ⟨p.2, s1, (Out.bind hp).imp (fun q hq => ?_) fun _ _ z => z.ext x1⟩
  intro vs H2 x2 s2 i2
  exact hq (v :: vs) H2 (x1.trans x2) s2 (.cons ((Stp.of x2).isD i1) i2)
/-- f(k = v, ..) -/
theorem pe_callN0 {E : L2.St → XK} {sp : Sp} {tk : TA} {g : List Value → List Value → List Value} {gV : List V → List V → List V} (F : FnOk X.prog X.w X.K X.mg X.base CX lv fa0 fd ps sp) (hr : Room lv X.A) (hg : Gl X x) (hm : X.mg x = some (.ref fa0)) (hk : PySem.W.keepIn X.K (.ref fa0) = true) (hb : KBn X.K fd ps 0 ks g gV) (hx : ∀ σ, PassesAt CX X σ (E σ))
    (hkw : PK X kws tk) (hall : (backToKw pos (keywordEach kws X.env)).all (·.1.isSome) = true := by rfl) (hks : (backToKw pos (keywordEach kws X.env)).filterMap (·.1) = ks := by rfl) (hdb : (x == ("__debug__" : Str)) = false := by decide)
    (hpl : ((backTo pos (starEach [] X.env)).any (·.1) || (backToKw pos (keywordEach kws X.env)).any (·.1.isNone)) = false := by rfl) :
    PE X (.Call (.Name x p) [] kws pos) (fun σ H Q => tk σ H fun zs H2 => zs.length = ks.length ∧ sp (gV [] zs) H2 Q (E σ)) := by
  refine ⟨fun pins s σ H Q I h => wpAny_Call_Name_kw (ld_glob I hg hm ?_ hdb)⟩
  refine PySem.W.callWith_KW0 (h₀ := X.base) I.ok.mod.kin hk hall ?_ hpl
  refine thn (hkw.run pos pins s σ H _ I h) fun ws s2 ⟨zs, H2, I2, rz, l2, q2⟩ => ⟨I2.kIn, ?_⟩
  rw [hks]
  have r2 := hb.rel (vs := []) (us := []) .nil rz
  refine wpAny_call (codeAny_mono (F.run X.A X.stack s2 H2 ⟨[], ks.zip ws⟩ (g [] ws) (gV [] zs) Q (E σ) hr I2.env0 (hb.to s2 [] ws I2.kIn rfl (rz.length.symm.trans l2)) r2 q2) fun r s' hq => ?_)
  cases r with
  | error e => exact hx σ pins H2 s2 e s' I2 hq
  | ok fl =>
    cases fl with
    | ret u => exact I2.after hq
    | next => exact False.elim hq
    | brk => exact False.elim hq
    | cont => exact False.elim hq
theorem tE_callK {F : List D → R D} {g : List D → List D → List D} {gV : List V → List V → List V} {fa fk : MD (List D)} (hg : ∀ (k : Kx) H M ds vs es zs, IsDs k H M ds vs → IsDs k H M es zs → IsDs k H M (g ds es) (gV vs zs)) (hl : ∀ ds es, ds.length = m → es.length = ks.length → (g ds es).length = n)
    (hlen : ∀ e r, fa e = .ok r → r.1.length = m) (hlenk : ∀ e r, fk e = .ok r → r.1.length = ks.length) (σ : L2.St) (H : Hp) (Q : VK) (h : tE C (calK F g fa fk) σ H Q) :
    tA C fa σ H fun vs H1 => tA C fk σ H1 fun zs H2 => vs.length = m ∧ zs.length = ks.length ∧ spP C.k n nw F (gV vs zs) H2 Q (fun cls d H => C.W cls d σ H) := by
  obtain ⟨e, s, o⟩ := h
  refine ⟨e, s, ?_⟩
  have o1 := Out.bind o
  cases e0 : fa e with
  | bad =>
    rw [e0] at o1
    exact o1.elim
  | exc z l =>
    rw [e0] at o1
    exact o1
  | ok q =>
    rw [e0] at o1
    intro vs H1 x1 s1 i1
    refine ⟨q.2, s1, ?_⟩
    have o2 := Out.bind (show Out _ _ ((fk q.2).bind _) from o1)
    cases e1 : fk q.2 with
    | bad =>
      rw [e1] at o2
      exact o2.elim
    | exc z l =>
      rw [e1] at o2
      exact XO.ext o2 x1
    | ok r =>
      rw [e1] at o2
      intro zs H2 x2 s2 i2
      have l1 := hlen e q e0
      have l2 := hlenk q.2 r e1
      have i3 := hg C.k H2 (MO C σ) _ _ _ _ ((Stp.of x2).isDs i1) i2
      refine ⟨i1.length.trans l1, i2.length.trans l2, MO C σ, g q.1 r.1, i3.length.trans (hl _ _ l1 l2), i3, fun b z => s2.mod z, ?_⟩
      have o3 : Out (PO1 C σ H Q) (XO C σ H) ((F (g q.1 r.1)).at r.2) := o2
      have x12 := x1.trans x2
      cases e2 : F (g q.1 r.1) with
      | bad =>
        rw [e2] at o3
        exact o3.elim
      | exc z l =>
        rw [e2] at o3
        exact fun cls xd H3 k3 rr => o3 cls xd H3 (x12.trans (same_ext k3)) (s2.same k3) rr
      | ok d =>
        rw [e2] at o3
        exact fun v H3 k3 iv _ => o3 v H3 (x12.trans (same_ext k3)) (s2.same k3) iv
theorem je_callK0 {F : List D → R D} {g : List D → List D → List D} {gV : List V → List V → List V} {gu : List Value → List Value → List Value} {fk : MD (List D)} (G : FnOk X.prog X.w X.K X.mg X.base CX lv fa0 fd ps (spP C.k n nw F)) (hr : Room lv X.A) (hgl : Gl X x) (hm : X.mg x = some (.ref fa0)) (hk : PySem.W.keepIn X.K (.ref fa0) = true) (hb : KBn X.K fd ps 0 ks gu gV)
    (hx : PX CX X C) (hg : ∀ (k : Kx) H M ds vs es zs, IsDs k H M ds vs → IsDs k H M es zs → IsDs k H M (g ds es) (gV vs zs)) (hl : ∀ ds es, ds.length = 0 → es.length = ks.length → (g ds es).length = n) (hlenk : ∀ e r, fk e = .ok r → r.1.length = ks.length)
    (hkw : PK X kws (tA C fk)) (hall : (backToKw pos (keywordEach kws X.env)).all (·.1.isSome) = true := by rfl) (hks : (backToKw pos (keywordEach kws X.env)).filterMap (·.1) = ks := by rfl) (hdb : (x == ("__debug__" : Str)) = false := by decide)
    (hpl : ((backTo pos (starEach [] X.env)).any (·.1) || (backToKw pos (keywordEach kws X.env)).any (·.1.isNone)) = false := by rfl) : PE X (.Call (.Name x p) [] kws pos) (tE C (calK F g nilA fk)) := by
  refine PE.imp (pe_callN0 G hr hgl hm hk hb hx hkw hall hks hdb hpl) fun σ H Q h => ?_
  obtain ⟨e, s, o⟩ := tE_callK (m := 0) hg hl (fun e r q => by cases q; rfl) hlenk σ H Q h
  have o1 := o [] H (Ext.refl _ _) s .nil
  obtain ⟨e2, s2, o2⟩ := o1
  exact ⟨e2, s2, o2.imp (fun r hr vs H' x' s' i' => (hr vs H' x' s' i').2) fun _ _ z => z⟩
theorem je_callN {F : List D → R D} {g : List D → List D → List D} {gV : List V → List V → List V} {gu : List Value → List Value → List Value} {fa fk : MD (List D)} {E : XK} (G : FnOk X.prog X.w X.K X.mg X.base CX lv fa0 fd ps (spP C.k n nw F)) (hr : Room lv X.A) (hgl : Gl X x) (hm : X.mg x = some (.ref fa0)) (hk : PySem.W.keepIn X.K (.ref fa0) = true) (hb : KBn X.K fd ps m ks gu gV)
    (hx : Passes CX X E) (hE : ∀ cls d σ H, C.W cls d σ H → E cls d H) (hg : ∀ (k : Kx) H M ds vs es zs, IsDs k H M ds vs → IsDs k H M es zs → IsDs k H M (g ds es) (gV vs zs)) (hl : ∀ ds es, ds.length = m → es.length = ks.length → (g ds es).length = n) (hlen : ∀ e r, fa e = .ok r → r.1.length = m) (hlenk : ∀ e r, fk e = .ok r → r.1.length = ks.length)
    (ha : PA X (a :: es) (tA C fa)) (hkw : PK X kws (tA C fk)) (hall : (backToKw pos (keywordEach kws X.env)).all (·.1.isSome) = true := by rfl) (hks : (backToKw pos (keywordEach kws X.env)).filterMap (·.1) = ks := by rfl) (hdb : (x == ("__debug__" : Str)) = false := by decide)
    (he : starEach (a :: es) X.env = (false, eval a X.env) :: starEach es X.env := by rfl)
    (hpl : ((backTo pos (starEach (a :: es) X.env)).any (·.1) || (backToKw pos (keywordEach kws X.env)).any (·.1.isNone)) = false := by rfl) : PE X (.Call (.Name x p) (a :: es) kws pos) (tE C (calK F g fa fk)) := by
  refine PE.imp (pe_callN G hr hgl hm hk hb hx ha hkw hall hks hdb he hpl) fun σ H Q h => ?_
  obtain ⟨e, s, o⟩ := tE_callK (m := m) hg hl hlen hlenk σ H Q h
  refine ⟨e, s, o.imp (fun q hq vs H1 x1 s1 i1 => ?_) fun _ _ z => z⟩
  obtain ⟨e2, s2, o2⟩ := hq vs H1 x1 s1 i1
  refine ⟨e2, s2, o2.imp (fun r hr zs H2 x2 s2 i2 => ?_) fun _ _ z => z⟩
  obtain ⟨l1, l2, M, ds, h1, h2, h3, h4⟩ := hr zs H2 x2 s2 i2
  exact ⟨l1, l2, M, ds, h1, h2, h3, h4.imp (fun _ z => z) fun _ _ z cls xd H' k r => hE _ _ _ _ (z cls xd H' k r)⟩
/-- f() -/
theorem je_call0 {F : List D → R D} {dd : List D} {dv : List V} {dvs : List Value} {E : XK} (G : FnOk X.prog X.w X.K X.mg X.base CX lv fa0 fd ps (spP C.k n nw F)) (hr : Room lv X.A) (hg : Gl X x) (hm : X.mg x = some (.ref fa0)) (hk : PySem.W.keepIn X.K (.ref fa0) = true)
    (hb : Binds X.K fd ps dvs) (hd : Vals dv dvs) (hc : Cst C.k dd dv) (hx : Passes CX X E) (hE : ∀ cls d σ H, C.W cls d σ H → E cls d H) (hl : dd.length = n) (hdb : (x == ("__debug__" : Str)) = false := by decide) : PE X (.Call (.Name x p) [] [] pos) (tE C (calM F dd nilA)) := by
  refine PE.imp (pe_call0 G hr hg hm hk hb hd hx hdb) fun σ H Q ⟨e, s, o⟩ => ?_
  have o2 : Out (PO1 C σ H Q) (XO C σ H) ((F ([] ++ dd)).at e) := o
  refine ⟨MO C σ, [] ++ dd, ?_, by rw [List.nil_append]; exact hc H _, fun b z => s.mod z, ?_⟩
  · show ([] ++ dv).length = n
    rw [List.nil_append, (hc H fun _ => False).length]
    exact hl
  · cases e1 : F ([] ++ dd) with
    | bad =>
      rw [e1] at o2
      exact o2.elim
    | exc z l =>
      rw [e1] at o2
      exact fun cls xd H2 k2 r => hE _ _ _ _ (o2 cls xd H2 (same_ext k2) (s.same k2) r)
    | ok d =>
      rw [e1] at o2
      exact fun v H2 k2 iv _ => o2 v H2 (same_ext k2) (s.same k2) iv
theorem nilA_len (e : Lc) (r : List D × Lc) (h : nilA e = .ok r) : r.1.length = 0 := by
  cases h
  rfl
theorem consA_len {f : MD D} {fa : MD (List D)} {k : Nat} (h : ∀ e r, fa e = .ok r → r.1.length = k) (e : Lc) (r : List D × Lc) (q : consA f fa e = .ok r) : r.1.length = k + 1 := by
  unfold consA at q
  cases e0 : f e with
  | bad => rw [e0] at q; cases q
  | exc z l => rw [e0] at q; cases q
  | ok p =>
    rw [e0] at q
    dsimp only [R.bind_ok] at q
    cases e1 : fa p.2 with
    | bad => rw [e1] at q; cases q
    | exc z l => rw [e1] at q; cases q
    | ok r' =>
      rw [e1] at q
      cases q
      exact congrArg Nat.succ (h _ _ e1)
end
end Dn

namespace Dn
open PySem PySem.Spec PyProof.Rows L2
section
variable {X : Cx} {C : Ct} {a b : Expr} {es : List Expr} {pos p p2 px : Pos} {f g : MD D} {fa : MD (List D)} {i : Nat} {x y : Str}

/-! ### isinstance -/
theorem isiD_nx (F : D → Option Bool) (d : D) (z : Ex) (l : Lc) : isiD F d ≠ .exc z l := by
  unfold isiD
  split <;> simp
theorem je_isi {T : String} {F : D → Option Bool} {T' : Str} (ok : IsiOk T F) (hK : C.k.K = X.K) (hg : Gl X "isinstance") (hm : X.mg "isinstance" = none) (hgT : Gl X T') (hmT : X.mg T' = none) (hvT : bootBuiltins T' = some (.type T)) (ha : PE X a (tE C f))
    (hn : T' ≠ "__name__" := by decide) (hdb : (T' == ("__debug__" : Str)) = false := by decide)
    (he : starEach [a, .Name T' p2] X.env = (false, eval a X.env) :: starEach [.Name T' p2] X.env := by rfl) (he2 : starEach [.Name T' p2] X.env = (false, eval (.Name T' p2) X.env) :: starEach [] X.env := by rfl)
    (hpl : (backTo pos (starEach [.Name T' p2] X.env)).any (·.1) = false := by rfl) : PE X (.Call (.Name "isinstance" p) [a, .Name T' p2] [] pos) (tE C (un1 (isiD F) f)) := by
  refine PE.imp (pe_callB call_isi hg hm PyProof.Rows.boot_isinstance (pa_cons ha (pa_cons (pe_bltn (v := .ty T) hgT hmT hvT rfl hn hdb) pa_nil he2) he) (by decide) (by decide) he hpl) fun σ H Q ⟨e, s, o⟩ => ⟨e, s, (Out.bind o).imp (fun q hq => ?_) fun _ _ z => z⟩
  intro v H1 x1 s1 i1
  cases e0 : F q.1 with
  | none =>
    have : isiD F q.1 = .bad := by unfold isiD; rw [e0]
    rw [this] at hq
    exact hq.elim
  | some r =>
    have : isiD F q.1 = .ok (.bl r) := by unfold isiD; rw [e0]
    rw [this] at hq
    obtain ⟨t, h1, h2⟩ := ok _ _ _ _ _ _ i1 e0
    rw [hK] at h1 h2
    exact ⟨v, .ty T, t, .type T, r, rfl, .ty T, h1, h2, hq _ H1 x1 s1 rfl⟩

/-! ### a list of one's own as an operand -/
def bin2L (op : D → D → R D) (i : Nat) (g : MD D) : MD D := fun e => match e[i]? with
  | some (some _) => (g e).bind fun q => match q.2[i]? with
    | some (some d) => (op d q.1).at q.2
    | _ => .bad
  | _ => .bad
def bin2R (op : D → D → R D) (f : MD D) (i : Nat) : MD D := fun e => (f e).bind fun p => match p.2[i]? with
  | some (some d) => (op p.1 d).at p.2
  | _ => .bad
theorem tE_binL {r : R2} {op : D → D → R D} (hi : i ∈ C.own) (ho : OpD C r op) (nx : ∀ a b y l, op a b ≠ .exc y l) (σ : L2.St) (H : Hp) (Q : VK) (h : tE C (bin2L op i g) σ H Q) : tOp r (tVar i) (tE C g) σ H Q := by
  obtain ⟨e, s, o⟩ := h
  unfold bin2L at o
  split at o
  · rename_i d0 h0
    obtain ⟨b, h1, h2⟩ := s.ow i d0 hi h0
    refine ⟨.ref b, h1, e, s, (Out.bind o).imp (fun q hq => ?_) fun _ _ z => z⟩
    intro v H1 x1 s1 i1
    split at hq
    · rename_i d hd
      obtain ⟨b', h3, h4⟩ := s1.ow i d hi hd
      have eb : b' = b := by
        rw [h1] at h3
        cases h3
        rfl
      subst eb
      exact ho σ q.2 H1 (.ref b') v d q.1 Q s1 h4.t i1.t (PNew.of hq x1 s1 (nx _ _))
    · exact hq.elim
  · exact o.elim
theorem tE_binR {r : R2} {op : D → D → R D} (hi : i ∈ C.own) (ho : OpD C r op) (nx : ∀ a b y l, op a b ≠ .exc y l) (σ : L2.St) (H : Hp) (Q : VK) (h : tE C (bin2R op f i) σ H Q) : tOp r (tE C f) (tVar i) σ H Q := by
  obtain ⟨e, s, o⟩ := h
  refine ⟨e, s, (Out.bind o).imp (fun q hq => ?_) fun _ _ z => z⟩
  intro v H1 x1 s1 i1
  split at hq
  · rename_i d hd
    obtain ⟨b, h3, h4⟩ := s1.ow i d hi hd
    exact ⟨.ref b, h3, ho σ q.2 H1 v (.ref b) q.1 d Q s1 i1.t h4.t (PNew.of hq x1 s1 (nx _ _))⟩
  · exact hq.elim
theorem je_opL {op : Operator} {r : R2} {F : D → D → R D} (ho : OpR X (binaryOp op) r) (hd : OpD C r F) (nx : ∀ a b y l, F a b ≠ .exc y l) (hi : i ∈ C.own) (hN : X.N[i]? = some x) (hv : Vis X.env.scope x) (hb : PE X b (tE C g)) (hdb : (x == ("__debug__" : Str)) = false := by decide) (hcd : (x == ("__classdict__" : Str)) = false := by decide) :
    PE X (.BinOp (.Name x px) op b pos) (tE C (bin2L F i g)) := PE.imp (pe_op ho (pe_var hN hv hdb hcd) hb) (tE_binL hi hd nx)
theorem je_opR {op : Operator} {r : R2} {F : D → D → R D} (ho : OpR X (binaryOp op) r) (hd : OpD C r F) (nx : ∀ a b y l, F a b ≠ .exc y l) (hi : i ∈ C.own) (hN : X.N[i]? = some x) (hv : Vis X.env.scope x) (ha : PE X a (tE C f)) (hdb : (x == ("__debug__" : Str)) = false := by decide) (hcd : (x == ("__classdict__" : Str)) = false := by decide) :
    PE X (.BinOp a op (.Name x px) pos) (tE C (bin2R F f i)) := PE.imp (pe_op ho ha (pe_var hN hv hdb hcd)) (tE_binR hi hd nx)
theorem je_cmpL {op : CmpOp} {r : R2} {F : D → D → R D} (ho : OpR X (compareOp op) r) (hd : OpD C r F) (nx : ∀ a b y l, F a b ≠ .exc y l) (hm : behindInMarks op b = false) (hi : i ∈ C.own) (hN : X.N[i]? = some x) (hv : Vis X.env.scope x) (hb : PE X b (tE C g)) (hdb : (x == ("__debug__" : Str)) = false := by decide) (hcd : (x == ("__classdict__" : Str)) = false := by decide) :
    PE X (.Compare (.Name x px) [op] [b] pos) (tE C (bin2L F i g)) := PE.imp (pe_cmpR ho (pe_var hN hv hdb hcd) hb hm) (tE_binL hi hd nx)
theorem jt_cmpL {op : CmpOp} {r : R2} {F : D → D → R D} (ho : OpR X (compareOp op) r) (hd : OpD C r F) (nx : ∀ a b y l, F a b ≠ .exc y l) (hm : behindInMarks op b = false) (hi : i ∈ C.own) (hN : X.N[i]? = some x) (hv : Vis X.env.scope x) (hb : PE X b (tE C g)) (hdb : (x == ("__debug__" : Str)) = false := by decide) (hcd : (x == ("__classdict__" : Str)) = false := by decide) :
    PT X (.Compare (.Name x px) [op] [b] pos) (tT C (tst (bin2L F i g))) := PT.imp (pt_cmpR ho (pe_var hN hv hdb hcd) hb hm) fun σ H Q h => tE_binL hi hd nx σ H _ (tT_test σ H Q h)
theorem je_cmpRO {op : CmpOp} {r : R2} {F : D → D → R D} (ho : OpR X (compareOp op) r) (hd : OpD C r F) (nx : ∀ a b y l, F a b ≠ .exc y l) (hm : behindInMarks op (.Name x px) = false) (hi : i ∈ C.own) (hN : X.N[i]? = some x) (hv : Vis X.env.scope x) (ha : PE X a (tE C f)) (hdb : (x == ("__debug__" : Str)) = false := by decide) (hcd : (x == ("__classdict__" : Str)) = false := by decide) :
    PE X (.Compare a [op] [.Name x px] pos) (tE C (bin2R F f i)) := PE.imp (pe_cmpR ho ha (pe_var hN hv hdb hcd) hm) (tE_binR hi hd nx)
theorem jt_cmpRO {op : CmpOp} {r : R2} {F : D → D → R D} (ho : OpR X (compareOp op) r) (hd : OpD C r F) (nx : ∀ a b y l, F a b ≠ .exc y l) (hm : behindInMarks op (.Name x px) = false) (hi : i ∈ C.own) (hN : X.N[i]? = some x) (hv : Vis X.env.scope x) (ha : PE X a (tE C f)) (hdb : (x == ("__debug__" : Str)) = false := by decide) (hcd : (x == ("__classdict__" : Str)) = false := by decide) :
    PT X (.Compare a [op] [.Name x px] pos) (tT C (tst (bin2R F f i))) := PT.imp (pt_cmpR ho ha (pe_var hN hv hdb hcd) hm) fun σ H Q h => tE_binR hi hd nx σ H _ (tT_test σ H Q h)
/-- x[lo:hi], x a list of one's own -/
def sliO (i : Nat) (lo hi : MD (Option Int)) : MD D := fun e => match e[i]? with
  | some (some (.lst _)) => (lo e).bind fun l => (hi l.2).bind fun u => match u.2[i]? with
    | some (some (.lst ds)) => .ok (.lst (cutG ds l.1 u.1), u.2)
    | _ => .bad
  | _ => .bad
theorem je_sliO {fl fu : MD (Option Int)} {lo hi : Option Expr} (hK : C.k.K = X.K) (hi' : i ∈ C.own) (hN : X.N[i]? = some x) (hv : Vis X.env.scope x) (hl : PO X lo (tO C fl)) (hu : PO X hi (tO C fu)) (hdb : (x == ("__debug__" : Str)) = false := by decide) (hcd : (x == ("__classdict__" : Str)) = false := by decide) :
    PE X (.Subscript (.Name x px) (.Slice lo hi none p2) pos) (tE C (sliO i fl fu)) := by
  refine PE.imp (pe_slice sl_list (pe_var hN hv hdb hcd) hl hu) fun σ H Q ⟨e, s, o⟩ => ?_
  unfold sliO at o
  split at o
  · rename_i ds0 h0
    obtain ⟨b, vs, h1, h2, h3⟩ := own_lst s hi' h0
    refine ⟨.ref b, h1, e, s, (Out.bind o).imp (fun l hl => ?_) fun _ _ z => z⟩
    intro H2 x2 s2
    refine ⟨l.2, s2, (Out.bind hl).imp (fun u hu => ?_) fun _ _ z => z.ext x2⟩
    intro H3 x3 s3
    split at hu
    · rename_i ds hd
      obtain ⟨b', ws, h4, h5, h6⟩ := own_lst s3 hi' hd
      have eb : b' = b := by
        rw [h1] at h4
        cases h4
        rfl
      subst eb
      have q : PNew C σ H3 Q (.ok (.lst (cutG ds l.1 u.1))) := PNew.of (e := u.2) hu (x2.trans x3) s3 (fun y l => by simp)
      exact ⟨b', ws, rfl, .inl (.inl h5), fun p hp => q.lst s3 hp (h6.cut _ _)⟩
    · exact hu.elim
  · exact o.elim
/-- f(x), x a list of one's own, f a built-in function -/
def callO (F : List D → R D) (i : Nat) : MD D := fun e => match e[i]? with
  | some (some d) => (F [d]).at e
  | _ => .bad
theorem tE_callO {r : List V → Hp → VK → Prop} {F : List D → R D} (hd : CaD C r F) (nx : ∀ a y l, F a ≠ .exc y l) (hi : i ∈ C.own) (σ : L2.St) (H : Hp) (Q : VK) (h : tE C (callO F i) σ H Q) : tCB r (tCons (tVar i) tNil) σ H Q := by
  obtain ⟨e, s, o⟩ := h
  unfold callO at o
  split at o
  · rename_i d h0
    obtain ⟨b, h1, h2⟩ := s.ow i d hi h0
    exact ⟨.ref b, h1, hd σ e H [.ref b] [d] Q s ⟨_, _, rfl, h2.t, rfl⟩ (PNew.of o (Ext.refl _ _) s (nx _))⟩
  · exact o.elim
variable {r : List V → Hp → VK → Prop} {F : List D → R D} {id T : String}
theorem je_callBO (hc : CallR X (.builtin id) r) (hd : CaD C r F) (nx : ∀ a y l, F a ≠ .exc y l) (hi : i ∈ C.own) (hN : X.N[i]? = some y) (hv' : Vis X.env.scope y) (hg : Gl X x) (hm : X.mg x = none) (hv : bootBuiltins x = some (.builtin id))
    (hn : x ≠ "__name__" := by decide) (hdb : (x == ("__debug__" : Str)) = false := by decide) (hdy : (y == ("__debug__" : Str)) = false := by decide) (hcy : (y == ("__classdict__" : Str)) = false := by decide)
    (he : starEach [.Name y px] X.env = (false, eval (.Name y px) X.env) :: starEach [] X.env := by rfl) (hpl : (backTo pos (starEach [] X.env)).any (·.1) = false := by rfl) : PE X (.Call (.Name x p) [.Name y px] [] pos) (tE C (callO F i)) :=
  PE.imp (pe_callB hc hg hm hv (pa_cons (pe_var hN hv' hdy hcy) pa_nil he) hn hdb he hpl) (tE_callO hd nx hi)
theorem je_callTyO (hc : CallR X (.type T) r) (hd : CaD C r F) (nx : ∀ a y l, F a ≠ .exc y l) (hi : i ∈ C.own) (hN : X.N[i]? = some y) (hv' : Vis X.env.scope y) (hg : Gl X x) (hm : X.mg x = none) (hv : bootBuiltins x = some (.type T))
    (hn : x ≠ "__name__" := by decide) (hdb : (x == ("__debug__" : Str)) = false := by decide) (hdy : (y == ("__debug__" : Str)) = false := by decide) (hcy : (y == ("__classdict__" : Str)) = false := by decide)
    (he : starEach [.Name y px] X.env = (false, eval (.Name y px) X.env) :: starEach [] X.env := by rfl) (hpl : (backTo pos (starEach [] X.env)).any (·.1) = false := by rfl) : PE X (.Call (.Name x p) [.Name y px] [] pos) (tE C (callO F i)) :=
  PE.imp (pe_callTy hc hg hm hv (pa_cons (pe_var hN hv' hdy hcy) pa_nil he) hn hdb he hpl) (tE_callO hd nx hi)

/-! ### sums of lists, as new lists -/
def addF (f g : MD D) : MD (List D) := fun e => (f e).bind fun p => (g p.2).bind fun q => match p.1, q.1 with
  | .lst xs, .lst ys => if xs.length + ys.length ≤ sizeLine then .ok (xs ++ ys, q.2) else .bad
  | _, _ => .bad
theorem jf_add (ha : PE X a (tE C f)) (hb : PE X b (tE C g)) : PE X (.BinOp a .Add b pos) (tF C (addF f g)) := by
  refine PE.imp (pe_op op_cat ha hb) fun σ H Q ⟨e, s, o⟩ => ⟨e, s, (Out.bind o).imp (fun p hp => ?_) fun _ _ z => z⟩
  intro v1 H1 x1 s1 i1
  refine ⟨p.2, s1, (Out.bind hp).imp (fun q hq => ?_) fun _ _ z => z.ext x1⟩
  intro v2 H2 x2 s2 i2
  split at hq
  · rename_i xs ys e1 e2
    split at hq
    · rename_i hz
      have i1' := (Stp.of x2).isD i1
      rw [e1] at i1'
      rw [e2] at i2
      obtain ⟨a1, vs, rfl, h1, _, h2⟩ := i1'
      obtain ⟨b1, ws, rfl, h3, _, h4⟩ := i2
      exact ⟨a1, b1, vs, ws, rfl, rfl, h1, h3, by rw [h2.length, h4.length]; exact hz, fun q hq' => hq _ H2 q (x1.trans x2) s2 (h2.app h4) hq'⟩
    · exact hq.elim
  · exact hq.elim
def addFL (i : Nat) (g : MD D) : MD (List D) := fun e => match e[i]? with
  | some (some (.lst _)) => (g e).bind fun q => match q.2[i]?, q.1 with
    | some (some (.lst xs)), .lst ys => if xs.length + ys.length ≤ sizeLine then .ok (xs ++ ys, q.2) else .bad
    | _, _ => .bad
  | _ => .bad
theorem jf_addL (hi : i ∈ C.own) (hN : X.N[i]? = some x) (hv : Vis X.env.scope x) (hb : PE X b (tE C g)) (hdb : (x == ("__debug__" : Str)) = false := by decide) (hcd : (x == ("__classdict__" : Str)) = false := by decide) : PE X (.BinOp (.Name x px) .Add b pos) (tF C (addFL i g)) := by
  refine PE.imp (pe_op op_cat (pe_var hN hv hdb hcd) hb) fun σ H Q ⟨e, s, o⟩ => ?_
  unfold addFL at o
  split at o
  · rename_i ds0 h0
    obtain ⟨b1, vs0, h1, h2, h3⟩ := own_lst s hi h0
    refine ⟨.ref b1, h1, e, s, (Out.bind o).imp (fun q hq => ?_) fun _ _ z => z⟩
    intro v2 H2 x2 s2 i2
    split at hq
    · rename_i xs ys e1 e2
      split at hq
      · rename_i hz
        obtain ⟨b', vs, h4, h5, h6⟩ := own_lst s2 hi e1
        have eb : b' = b1 := by
          rw [h1] at h4
          cases h4
          rfl
        subst eb
        rw [e2] at i2
        obtain ⟨c1, ws, rfl, h7, _, h8⟩ := i2
        exact ⟨b', c1, vs, ws, rfl, rfl, h5, h7, by rw [h6.length, h8.length]; exact hz, fun q hq' => hq _ H2 q x2 s2 (h6.app h8) hq'⟩
      · exact hq.elim
    · exact hq.elim
  · exact o.elim
end
end Dn

namespace Dn
open PySem PySem.Spec PyProof.Rows L2
/-! ### a protected list is changed, let go -/
theorem SR.wr1 {C : Ct} {e : Lc} {σ : L2.St} {H H' : Hp} (s : SR C e σ H) {q : Addr} {o : HO} {d : D} (hM : C.M q) (hq : H q = some o) (hx : ¬ Fx o) (h0 : C.H0 q = none) (hp : C.par ≠ some q) (x : Ext (fun c => c = q) H H') (od : OwnD C.k H' (MO C σ) d q) : SR C e σ H' := by
  have hm : MO C σ q := .inl hM
  have there : ∃ o, H' q = some o := by
    cases d with
    | lst ds =>
      obtain ⟨vs, h1, _⟩ := od
      exact ⟨_, h1⟩
    | dct ks ds =>
      obtain ⟨vs, h1, _⟩ := od
      exact ⟨_, h1⟩
    | _ => exact od.elim
  have xm : Ext (MO C σ) H H' := fun b u z n => x b u z (n.imp (fun n y => n (by rw [y]; exact hm)) id)
  have kn : ∀ b u, b ≠ q → H b = some u → H' b = some u := fun b u hb z => x b u z (.inl hb)
  have kp : ∀ b u, H b = some u → ∃ u', H' b = some u' := fun b u z => by
    by_cases hb : b = q
    · rw [hb]
      exact there
    · exact ⟨u, kn b u hb z⟩
  refine ⟨s.len, fun i d hi he => ?_, fun i d hi he => ?_, s.dist, s.fr, fun b u z n => ?_, fun b h => (s.al b h).elim fun u z => kp b u z, s.nm, fun i b hi h => (s.alo i b hi h).elim fun u z => kp b u z, s.p0, fun b h => (s.pm b h).elim fun u z => kp b u z⟩
  · obtain ⟨v, h1, h2⟩ := s.val i d hi he
    exact ⟨v, h1, IsD.step xm (fun _ z => .inl z) _ _ h2⟩
  · obtain ⟨a, h1, h2⟩ := s.ow i d hi he
    have ha : a ≠ q := fun z => by
      subst z
      rcases s.nm i a hi h1 with y | y
      · exact y hM
      · exact hp y
    exact ⟨a, h1, OwnD.step xm (fun _ z => .inl z) h2 fun u z => kn a u ha z⟩
  · have hb : b ≠ q := fun y => by
      rw [y, h0] at z
      cases z
    exact kn b u hb (s.ext b u z n)
theorem OwnD.mono {k : Kx} {H : Hp} {M M' : Addr → Prop} {d : D} {a : Addr} (h : OwnD k H M d a) (m : ∀ a, M' a → M a) : OwnD k H M' d a := OwnD.step (Ext.refl _ _) (fun a z => .inl (m a z)) h fun _ z => z
theorem SR.out0 {C : Ct} {e e' : Lc} {σ : L2.St} {H H' : Hp} {q : Addr} (s : SR C e σ H) (hq : H q = none) (s' : SR (C.b fun a => C.M a ∨ a = q) e' σ H') (x : ∀ a u, H a = some u → (¬ OW C σ a ∨ Fx u) → H' a = some u) : SR C e' σ H' ∧ Ext (OW C σ) H H' := by
  have moq : ∀ a, MO C σ a → MO (C.b fun a => C.M a ∨ a = q) σ a := fun a z => by
    rcases z with z | z
    · exact .inl (.inl z)
    · exact .inr z
  refine ⟨⟨s'.len, fun i d hi he => ?_, fun i d hi he => ?_, s.dist, s.fr, s'.ext, fun a h => s'.al a (.inl h), s.nm, s'.alo, s.p0, s'.pm⟩, x⟩
  · obtain ⟨v, h1, h2⟩ := s'.val i d hi he
    exact ⟨v, h1, h2.mono moq⟩
  · obtain ⟨a, h1, h2⟩ := s'.ow i d hi he
    exact ⟨a, h1, h2.mono moq⟩
section
variable {X : Cx} {C : Ct} {CX : CXT} {lv n : Nat} {fa0 : Addr} {fd : FuncData} {ps : List Str} {a b : Expr} {es : List Expr} {pos p p2 px : Pos} {f g : MD D} {fa : MD (List D)} {i : Nat} {x y : Str}

/-! ### calls that give a new list -/
def lstR {β : Type} (r : R (D × β)) : R (List D × β) := r.bind fun q => match q.1 with
  | .lst ds => .ok (ds, q.2)
  | _ => .bad
def calF (F : List D → R D) (dd : List D) (fa : MD (List D)) : MD (List D) := fun e => (fa e).bind fun p => lstR ((F (p.1 ++ dd)).at p.2)
theorem era_of {H0 H' : Hp} {q : Addr} (k : Same H0 H') (h : H0 q = none) : Same H0 (era H' q) := fun a o z => by
  rw [era_ne (ne_of_none z h)]
  exact k a o z
theorem je_callF {F : List D → R D} {dd : List D} {dv : List V} {dvs : List Value} (G : FnOk X.prog X.w X.K X.mg X.base CX lv fa0 fd ps (spP C.k n true F)) (hr : Room lv X.A) (hg : Gl X x) (hm : X.mg x = some (.ref fa0)) (hk : PySem.W.keepIn X.K (.ref fa0) = true)
    (hb : Binds X.K fd ps dvs) (hd : Vals dv dvs) (hc : Cst C.k dd dv) (hx : PX CX X C) (hl : (a :: es).length + dd.length = n) (hlen : ∀ e r, fa e = .ok r → r.1.length = (a :: es).length) (ha : PA X (a :: es) (tA C fa)) (hdb : (x == ("__debug__" : Str)) = false := by decide)
    (he : starEach (a :: es) X.env = (false, eval a X.env) :: starEach es X.env := by rfl) (hpl : (backTo pos (starEach es X.env)).any (·.1) = false := by rfl) : PE X (.Call (.Name x p) (a :: es) [] pos) (tF C (calF F dd fa)) := by
  refine PE.imp (pe_callSD G hr hg hm hk hb hd hx ha hdb he hpl) fun σ H Q ⟨e, s, o⟩ => ⟨e, s, ?_⟩
  have o1 := Out.bind o
  cases e0 : fa e with
  | bad =>
    rw [e0] at o1
    exact o1.elim
  | exc z l =>
    rw [e0] at o1
    exact o1
  | ok q =>
    rw [e0] at o1
    intro vs H1 x1 s1 i1
    have hq := hlen e q e0
    refine ⟨MO C σ, q.1 ++ dd, ?_, i1.app (hc H1 _), fun b z => s1.mod z, ?_⟩
    · rw [List.length_append, i1.length, hq, (hc H1 fun _ => False).length]
      exact hl
    · have o2 : Out (PF C σ H Q) (XO C σ H) (lstR ((F (q.1 ++ dd)).at q.2)) := o1
      cases e1 : F (q.1 ++ dd) with
      | bad =>
        rw [e1] at o2
        exact o2.elim
      | exc z l =>
        rw [e1] at o2
        exact fun cls xd H2 k2 r => o2 cls xd H2 (x1.trans (same_ext k2)) (s1.same k2) r
      | ok d =>
        rw [e1] at o2
        intro v H2 k2 iv nn
        obtain ⟨ds, q', vs', rfl, rfl, h3, h4, h5⟩ := nn rfl
        have k3 := era_of k2 h3
        have fin := o2 vs' (era H2 q') q' (x1.trans (same_ext k3)) (s1.same k3) h5 era_same
        rw [era_upd h4] at fin
        exact fin
/-- one that changes the list x of one's own besides -/
def caIF (F : D → List D → R (D × D)) (i : Nat) (fa : MD (List D)) : MD (List D) := fun e => match e[i]? with
  | some (some _) => (fa e).bind fun p => match p.2[i]? with
    | some (some d0) => (noX (F d0 p.1)).bind fun r => match r.1 with
      | .lst ds => .ok (ds, p.2.set i (some r.2))
      | _ => .bad
    | _ => .bad
  | _ => .bad
theorem je_callIF {F : D → List D → R (D × D)} (G : FnOk X.prog X.w X.K X.mg X.base CX0 lv fa0 fd ps (spI C.k n true F)) (hr : Room lv X.A) (hg : Gl X x) (hm : X.mg x = some (.ref fa0)) (hk : PySem.W.keepIn X.K (.ref fa0) = true)
    (hb : Binds X.K fd ps []) (hl : es.length + 1 = n) (hlen : ∀ e r, fa e = .ok r → r.1.length = es.length) (ho : i ∈ C.own) (hN : X.N[i]? = some y) (hv : Vis X.env.scope y) (ha : PA X es (tA C fa)) (hdb : (x == ("__debug__" : Str)) = false := by decide)
    (hd : (y == ("__debug__" : Str)) = false := by decide) (hcd : (y == ("__classdict__" : Str)) = false := by decide)
    (he : starEach (.Name y px :: es) X.env = (false, eval (.Name y px) X.env) :: starEach es X.env := by rfl) (hpl : (backTo pos (starEach es X.env)).any (·.1) = false := by rfl) : PE X (.Call (.Name x p) (.Name y px :: es) [] pos) (tF C (caIF F i fa)) := by
  refine PE.imp (pe_callSD (E := fun _ _ _ _ => False) G hr hg hm hk hb .nil (fun σ _ _ _ _ _ _ h => h.elim) (pa_cons (pe_var hN hv hd hcd) ha he) hdb he hpl) fun σ H Q ⟨e, s, o⟩ => ?_
  unfold caIF at o
  split at o
  · rename_i d00 h00
    obtain ⟨b, h1, h2⟩ := s.ow i _ ho h00
    refine ⟨.ref b, h1, e, s, ?_⟩
    have o1 := Out.bind o
    cases e0 : fa e with
    | bad =>
      rw [e0] at o1
      exact o1.elim
    | exc z l =>
      rw [e0] at o1
      exact o1
    | ok q =>
      rw [e0] at o1
      intro vs H1 x1 s1 i1
      have hq := hlen e q e0
      have o2 : Out (PF C σ H Q) (XO C σ H) (match q.2[i]? with
        | some (some d0) => (noX (F d0 q.1)).bind fun r => match r.1 with
          | .lst ds => .ok (ds, q.2.set i (some r.2))
          | _ => .bad
        | _ => .bad) := o1
      split at o2
      · rename_i d0 hd0
        obtain ⟨b', h3, h4⟩ := s1.ow i d0 ho hd0
        have eb : b' = b := by
          rw [h1] at h3
          cases h3
          rfl
        subst eb
        refine ⟨MO C σ, b', d0, q.1, vs, by rw [List.append_nil], ?_, .inr ⟨i, ho, h1⟩, h4, i1, fun c z => s1.mod z, ?_⟩
        · rw [List.append_nil, List.length_cons, i1.length, hq]
          exact hl
        · refine (noX_bind (E' := fun _ _ => False) o2).imp (fun r hr v H2 x2 od iv nn => ?_) fun _ _ z => z
          obtain ⟨⟨ds, q', vs', e1, e2, h6, h7, h8⟩, h9⟩ := nn rfl
          have hr2 : Out (PF C σ H Q) (XO C σ H) (match r.1 with | .lst ds => R.ok (ds, q.2.set i (some r.2)) | _ => .bad) := hr
          rw [e1] at hr2
          subst e2
          have od3 := h9 q' rfl
          have x3 : Ext (fun c => c = b') H1 (era H2 q') := fun c o z n => by
            rw [era_ne (ne_of_none z h6)]
            exact x2 c o z n
          obtain ⟨s4, x4⟩ := s1.io ho h1 h4 x3 od3
          have fin := hr2 vs' (era H2 q') q' (x1.trans x4) s4 h8 era_same
          rw [era_upd h7] at fin
          exact fin
      · exact o2.elim
  · exact o.elim
/-- f(new list, e, ..): the list is let go behind the call -/
def caN (F : D → List D → R (D × D)) (ff : MD (List D)) (fa : MD (List D)) : MD D := fun e => (ff e).bind fun p => (noX (fa p.2)).bind fun q => (noX (F (.lst p.1) q.1)).bind fun r => match r.1 with
  | .bl b => .ok (.bl b, q.2)
  | .int j => .ok (.int j, q.2)
  | .non => .ok (.non, q.2)
  | .str z => .ok (.str z, q.2)
  | _ => .bad
theorem je_callN1 {F : D → List D → R (D × D)} {ff : MD (List D)} {nw : Bool} (G : FnOk X.prog X.w X.K X.mg X.base CX0 lv fa0 fd ps (spI C.k n nw F)) (hr : Room lv X.A) (hg : Gl X x) (hm : X.mg x = some (.ref fa0)) (hk : PySem.W.keepIn X.K (.ref fa0) = true)
    (hb : Binds X.K fd ps []) (hl : es.length + 1 = n) (hlen : ∀ e r, fa e = .ok r → r.1.length = es.length) (h1 : PE X a (tF C ff)) (ha : ∀ M', PA X es (tA (C.b M') fa)) (hdb : (x == ("__debug__" : Str)) = false := by decide)
    (he : starEach (a :: es) X.env = (false, eval a X.env) :: starEach es X.env := by rfl) (hpl : (backTo pos (starEach es X.env)).any (·.1) = false := by rfl) : PE X (.Call (.Name x p) (a :: es) [] pos) (tE C (caN F ff fa)) := by
  have haa : PA X es (fun σ H Q => ∃ M', tA (C.b M') fa σ H Q) := ⟨fun pos pins s σ H Q I ⟨M', h⟩ => (ha M').run pos pins s σ H Q I h⟩
  refine PE.imp (pe_callSD (E := fun _ _ _ _ => False) G hr hg hm hk hb .nil (fun σ _ _ _ _ _ _ h => h.elim) (pa_cons h1 haa he) hdb he hpl) fun σ H Q ⟨e, s, o⟩ => ?_
  refine ⟨e, s, (Out.bind o).imp (fun q hq => ?_) fun _ _ z => z⟩
  intro vs H1 q1 x1 s1 i1 hq1
  have hqp : C.par ≠ some q1 := fun z => by
    obtain ⟨u2, h2⟩ := s1.pm q1 z
    rw [hq1] at h2
    cases h2
  have s2 := s1.into (o := .lst vs) hq1
  refine ⟨fun a => C.M a ∨ a = q1, q.2, s2, ?_⟩
  have o3 := noX_bind (E' := XO (C.b fun a => C.M a ∨ a = q1) σ (upd H1 q1 (.lst vs))) hq
  cases e0' : fa q.2 with
  | bad =>
    rw [e0'] at o3
    exact o3.elim
  | exc z l =>
    rw [e0'] at o3
    exact o3
  | ok r =>
    rw [e0'] at o3
    intro ws H2 x2 s3 i3
    have hlr := hlen q.2 r e0'
    have nq : ∀ τ, MO (C.b fun a => C.M a ∨ a = q1) τ q1 := fun τ => .inl (.inr rfl)
    have now : ¬ OW (C.b fun a => C.M a ∨ a = q1) σ q1 := fun ⟨j, hj, z⟩ => by
      rcases s2.nm j q1 hj z with y | y
      · exact y (.inr rfl)
      · exact hqp y
    have h12 : H2 q1 = some (.lst vs) := x2 q1 _ upd_same (.inl now)
    have i12 : IsDs C.k H2 (MO (C.b fun a => C.M a ∨ a = q1) σ) q.1 vs := IsDs.step x2.mo (fun a z => .inl z) _ _ (IsDs.step (Ext.upd hq1) (fun a z => by
      rcases z with (z | z) | z
      · exact .inl (.inl z)
      · exact .inr (by rw [z]; exact hq1)
      · exact .inl (.inr z)) _ _ i1)
    refine ⟨MO (C.b fun a => C.M a ∨ a = q1) σ, q1, .lst q.1, r.1, ws, by rw [List.append_nil], ?_, nq σ, ⟨vs, h12, i12⟩, i3, fun c z => s3.mod z, ?_⟩
    · rw [List.append_nil, List.length_cons, i3.length, hlr]
      exact hl
    · refine (noX_bind (E' := fun _ _ => False) o3).imp (fun t ht v H3 x3 od iv _ => ?_) fun _ _ z => z
      have fin : ∀ d, (∀ (H H' : Hp) (M M' : Addr → Prop) v, IsD C.k H M d v → IsD C.k H' M' d v) → t.1 = d → PO1 C σ H Q (d, r.2) → Q v H3 := fun d hs e1 h => by
        have hs1 : SR (C.b fun a => C.M a ∨ a = q1) r.2 σ H3 := by
          have h0q : C.H0 q1 = none := by
            cases z : C.H0 q1 with
            | none => rfl
            | some u =>
              have := s1.ext q1 u z (.inl hqp)
              rw [hq1] at this
              cases this
          exact s3.wr1 (.inr rfl) h12 (fun z => z) h0q hqp x3 od
        have hs2 : SR C r.2 σ H3 ∧ Ext (OW C σ) H1 H3 := SR.out0 s1 hq1 hs1 fun a u z n => by
          have ha : a ≠ q1 := ne_of_none z hq1
          have h2 := x2 a u (by rw [upd_ne ha]; exact z) n
          exact x3 a u h2 (.inl ha)
        rw [e1] at iv
        exact h v H3 (x1.trans hs2.2) hs2.1 (hs _ _ _ _ _ iv)
      split at ht
      · rename_i b e1
        exact fin (.bl b) (fun _ _ _ _ _ z => z) e1 ht
      · rename_i b e1
        exact fin (.int b) (fun _ _ _ _ _ z => z) e1 ht
      · rename_i e1
        exact fin .non (fun _ _ _ _ _ z => z) e1 ht
      · rename_i b e1
        exact fin (.str b) (fun _ _ _ _ _ z => z) e1 ht
      · exact ht.elim
end
end Dn

namespace Dn
open PySem PySem.Spec PyProof.Rows L2
section
variable {X : Cx} {C : Ct} {a b c : Expr} {es : List Expr} {pos p p2 px py pt : Pos} {f g : MD D} {ff : MD (List D)} {fa : MD (List D)} {i j : Nat} {x y : Str} {kt k2 : Nat} {pt2 : Pos}

/-! ### a, b = e1, e2 -/
def parS (i j : Nat) (f g : MD D) : MS := fun e => (f e).bind fun p => (g p.2).bind fun q => .ok (.nx, (q.2.set i (some p.1)).set j (some q.1))
theorem js_par (ho : i ∉ C.own) (hf : Free C i) (ho2 : j ∉ C.own) (hf2 : Free C j) (hc : X.calm = true) (hN : X.N.Nodup) (hi : X.N[i]? = some x) (hj : X.N[j]? = some y) (hij : i ≠ j)
    (hx : X.env.scope.names.lookup x = some .local) (hy : X.env.scope.names.lookup y = some .local) (ha : PE X a (tE C f)) (hb : PE X b (tE C g))
    (hw : swappedStores [.Tuple [.Name x px, .Name y py] kt pt] (.Tuple [a, b] k2 pt2) X.env = pure (some [x, y]))
    (h1 : starEach [a, b] X.env = (false, eval a X.env) :: starEach [b] X.env := by rfl) (h2 : starEach [b] X.env = (false, eval b X.env) :: starEach [] X.env := by rfl)
    (hs : swapsWithSole [.Tuple [.Name x px, .Name y py] kt pt] (.Tuple [a, b] k2 pt2) pos.line X.env = pure false := by rfl) :
    PS X (.Assign [.Tuple [.Name x px, .Name y py] kt pt] (.Tuple [a, b] k2 pt2) pos) (tS C (parS i j f g)) := by
  refine PS.imp (ps_par hc hN hi hj hij hx hy (pa_cons ha (pa_cons hb pa_nil h2) h1) hw hs) fun D σ H ⟨e, s, o⟩ => ⟨e, s, (Out.bind o).imp (fun p hp => ?_) fun _ _ z => z.xo⟩
  intro v H1 x1 s1 i1
  refine ⟨p.2, s1, (Out.bind hp).imp (fun q hq => ?_) fun _ _ z => (z.step (Stp.of x1)).xo⟩
  intro w H2 x2 s2 i2
  refine ⟨v, w, rfl, hq _ H2 (Stp.trans (Stp.set ho (x1.trans x2)) (Stp.set ho2 (Ext.refl _ _))) ?_⟩
  have s3 := s2.set ho hf ((Stp.of x2).isD i1)
  exact s3.set ho2 hf2 (by rw [MO_set ho]; exact i2)
/-- the second name one's own, its value a new list -/
def parS2 (i j : Nat) (f : MD D) (ff : MD (List D)) : MS := fun e => (f e).bind fun p => (ff p.2).bind fun q => .ok (.nx, (q.2.set i (some p.1)).set j (some (.lst q.1)))
theorem js_par2 (ho : i ∉ C.own) (hf : Free C i) (ho2 : j ∈ C.own) (hf2 : Free C j) (hc : X.calm = true) (hN : X.N.Nodup) (hi : X.N[i]? = some x) (hj : X.N[j]? = some y) (hij : i ≠ j)
    (hx : X.env.scope.names.lookup x = some .local) (hy : X.env.scope.names.lookup y = some .local) (ha : PE X a (tE C f)) (hb : PE X b (tF C ff))
    (hw : swappedStores [.Tuple [.Name x px, .Name y py] kt pt] (.Tuple [a, b] k2 pt2) X.env = pure (some [x, y]))
    (h1 : starEach [a, b] X.env = (false, eval a X.env) :: starEach [b] X.env := by rfl) (h2 : starEach [b] X.env = (false, eval b X.env) :: starEach [] X.env := by rfl)
    (hs : swapsWithSole [.Tuple [.Name x px, .Name y py] kt pt] (.Tuple [a, b] k2 pt2) pos.line X.env = pure false := by rfl) :
    PS X (.Assign [.Tuple [.Name x px, .Name y py] kt pt] (.Tuple [a, b] k2 pt2) pos) (tS C (parS2 i j f ff)) := by
  refine PS.imp (ps_par hc hN hi hj hij hx hy (pa_cons ha (pa_cons hb pa_nil h2) h1) hw hs) fun D σ H ⟨e, s, o⟩ => ⟨e, s, (Out.bind o).imp (fun p hp => ?_) fun _ _ z => z.xo⟩
  intro v H1 x1 s1 i1
  refine ⟨p.2, s1, (Out.bind hp).imp (fun q hq => ?_) fun _ _ z => (z.step (Stp.of x1)).xo⟩
  intro vs H2 l x2 s2 i2 hl
  have s3 := s2.set ho hf ((Stp.of x2).isD i1)
  have i3 : IsDs C.k H2 (MO C (σ.set i (some v))) q.1 vs := by rw [MO_set ho]; exact i2
  obtain ⟨s4, x4⟩ := s3.setO ho2 hf2 hl (OwnD.new s3 hl i3)
  exact ⟨v, .ref l, rfl, hq _ _ ((Stp.set ho (x1.trans x2)).trans x4) s4⟩
/-- the first name one's own, its value a new list -/
def parS1 (i j : Nat) (ff : MD (List D)) (g : MD D) : MS := fun e => (ff e).bind fun p => (noX (g p.2)).bind fun q => .ok (.nx, (q.2.set i (some (.lst p.1))).set j (some q.1))
theorem js_par1 (ho : i ∈ C.own) (hf : Free C i) (ho2 : j ∉ C.own) (hf2 : Free C j) (hc : X.calm = true) (hN : X.N.Nodup) (hi : X.N[i]? = some x) (hj : X.N[j]? = some y) (hij : i ≠ j)
    (hx : X.env.scope.names.lookup x = some .local) (hy : X.env.scope.names.lookup y = some .local) (ha : PE X a (tF C ff)) (hb : ∀ M', PE X b (tE (C.b M') g))
    (hw : swappedStores [.Tuple [.Name x px, .Name y py] kt pt] (.Tuple [a, b] k2 pt2) X.env = pure (some [x, y]))
    (h1 : starEach [a, b] X.env = (false, eval a X.env) :: starEach [b] X.env := by rfl) (h2 : starEach [b] X.env = (false, eval b X.env) :: starEach [] X.env := by rfl)
    (hs : swapsWithSole [.Tuple [.Name x px, .Name y py] kt pt] (.Tuple [a, b] k2 pt2) pos.line X.env = pure false := by rfl) :
    PS X (.Assign [.Tuple [.Name x px, .Name y py] kt pt] (.Tuple [a, b] k2 pt2) pos) (tS C (parS1 i j ff g)) := by
  refine PS.imp (ps_par hc hN hi hj hij hx hy (pa_cons ha (pa_cons (PE.exM hb) pa_nil h2) h1) hw hs) fun D σ H ⟨e, s, o⟩ => ⟨e, s, (Out.bind o).imp (fun p hp => ?_) fun _ _ z => z.xo⟩
  intro vs H1 q1 x1 s1 i1 hq1
  have hqp : C.par ≠ some q1 := fun z => by
    obtain ⟨u2, h2⟩ := s1.pm q1 z
    rw [hq1] at h2
    cases h2
  have s2 := s1.into (o := .lst vs) hq1
  refine ⟨fun a => C.M a ∨ a = q1, p.2, s2, ?_⟩
  refine (noX_bind hp).imp (fun q hq => ?_) fun _ _ z => z
  intro w H2 x2 s3 i3
  have now : ¬ OW (C.b fun a => C.M a ∨ a = q1) σ q1 := fun ⟨j, hj, z⟩ => by
    rcases s2.nm j q1 hj z with y | y
    · exact y (.inr rfl)
    · exact hqp y
  have h12 : H2 q1 = some (.lst vs) := x2 q1 _ upd_same (.inl now)
  have nq : MO (C.b fun a => C.M a ∨ a = q1) σ q1 := .inl (.inr rfl)
  have i12 : IsDs C.k H2 (MO (C.b fun a => C.M a ∨ a = q1) σ) p.1 vs := IsDs.step x2.mo (fun a z => .inl z) _ _ (IsDs.step (Ext.upd hq1) (fun a z => by
    rcases z with (z | z) | z
    · exact .inl (.inl z)
    · exact .inr (by rw [z]; exact hq1)
    · exact .inl (.inr z)) _ _ i1)
  have mq2 : ∀ a, MO C σ a → MO (C.b fun a => C.M a ∨ a = q1) σ a := fun a z => by
    rcases z with z | z
    · exact .inl (.inl z)
    · exact .inr z
  obtain ⟨s9, x9⟩ := SR.out (vs := []) (fun _ z => by cases z) s1 hq1 s3 h12 fun a u z n => x2 a u (by rw [upd_ne (ne_of_none z hq1)]; exact z) n
  have nr : OwnD C.k (upd (Dn.era H2 q1) q1 (.lst vs)) (fun a => MO C σ a ∨ a = q1) (.lst p.1) q1 := OwnD.new (C := C) (σ := σ) (e := q.2) s9 era_same (IsDs.era h12 (fun z => z) nq mq2 _ _ i12)
  obtain ⟨s10, x10⟩ := s9.setO ho hf era_same nr
  rw [era_upd h12] at s10 x10
  have i4 : IsD C.k H2 (MO C (σ.set i (some (.ref q1)))) q.1 w := i3.mono fun a z => by
    rcases z with z | ⟨k, hk, z⟩
    · exact .inl (.inl z)
    · by_cases hki : k = i
      · subst hki
        rw [List.getElem?_set] at z
        split at z
        · split at z
          · cases z
            exact nq
          · cases z
        · exact absurd rfl ‹_›
      · rw [List.getElem?_set_ne (fun h => hki h.symm)] at z
        exact .inr ⟨k, hk, z⟩
  exact ⟨.ref q1, w, rfl, hq _ H2 ((Stp.of (x1.trans x9)).trans (x10.trans (Stp.set ho2 (Ext.refl _ _)))) (s10.set ho2 hf2 i4)⟩

/-! ### name = [comprehension] -/
theorem set_of {t : TE} {f : MD (List D)} (ho : i ∉ C.own) (hf : Free C i) (ht : ∀ σ H Q, tF C f σ H Q → t σ H Q) (D : Ends) (σ : L2.St) (H : Hp) (h : tS C (setO i f) D σ H) : tAsg t (gName i) D σ H := by
  obtain ⟨e, s, o⟩ := h
  refine ht _ _ _ ⟨e, s, (Out.bind o).imp (fun p hp => ?_) fun _ _ z => z.xo⟩
  intro vs H1 q x1 s1 i1 hq
  have s2 : SR C p.2 σ (upd H1 q (.lst vs)) := s1.grow hq
  exact hp _ _ (Stp.set ho (x1.trans (Ext.upd hq))) (s2.set ho hf (IsD.newL s1 hq i1))
theorem setO_of {t : TE} {f : MD (List D)} (ho : i ∈ C.own) (hf : Free C i) (ht : ∀ σ H Q, tF C f σ H Q → t σ H Q) (D : Ends) (σ : L2.St) (H : Hp) (h : tS C (setO i f) D σ H) : tAsg t (gName i) D σ H := by
  obtain ⟨e, s, o⟩ := h
  refine ht _ _ _ ⟨e, s, (Out.bind o).imp (fun p hp => ?_) fun _ _ z => z.xo⟩
  intro vs H1 q x1 s1 i1 hq
  obtain ⟨s2, x2⟩ := s1.setO ho hf hq (OwnD.new s1 hq i1)
  exact hp _ _ ((Stp.of x1).trans x2) s2
/-- a plain name gets a new list -/
theorem js_setL (ho : i ∉ C.own) (hf : Free C i) (hN : X.N.Nodup) (hi : X.N[i]? = some x) (hx : Loc X.env.scope x) (hfn : X.fn x = true ∨ X.env.scope.names.lookup x = some .local) (he : PE X a (tF C ff)) (hs : swapsWith a (some (.Name x px)) pos.line X.env = pure false := by rfl) :
    PS X (.Assign [.Name x px] a pos) (tS C (setO i ff)) := PS.imp (ps_set hN hi hx he hs hfn) (set_of ho hf fun _ _ _ h => h)
variable {elt tg iter : Expr} {ifs : List Expr} {scope : Scope} {own : List (Str × Nat)} {spos : Pos} {t : MD Bool} {el : MD D} {gg : GD}
theorem js_setLc (hw : (i ∉ C.own ∧ Free C i) ∨ (i ∈ C.own ∧ Free C i)) (hc : X.calm = true) (hN : X.N.Nodup) (hy : X.N[i]? = some y) (hyl : X.env.scope.names.lookup y = some .local)
    (hsw : swapsWith (.ListComp elt [⟨tg, iter, ifs, 0⟩] scope pos) (some (.Name y py)) spos.line X.env = pure true) (hv : OkVs C (own.map (·.2))) (hi : PI X tg iter (tI C fa)) (ok : BlkOk X.N X.env.scope scope own)
    (hg : ∀ (M' : Addr → Prop) (s : Shared) (H : Hp) (Ca : Addr) (cl : List (Str × Addr)) (fp : List Addr), PG (X.blk s H scope (compEnvC scope cl Ca X.env) fp) tg (tGv (C.b M') (own.map (·.2)) gg))
    (ht : ∀ (M' : Addr → Prop) (s : Shared) (H : Hp) (Ca : Addr) (cl : List (Str × Addr)) (fp : List Addr), PTs (X.blk s H scope (compEnvC scope cl Ca X.env) fp) ifs (tT (C.b M') t))
    (he : ∀ (M' : Addr → Prop) (s : Shared) (H : Hp) (Ca : Addr) (cl : List (Str × Addr)) (fp : List Addr), PE (X.blk s H scope (compEnvC scope cl Ca X.env) fp) elt (tE (C.b M') el)) (hs : ∀ x, foldedSetIterable iter X.env x = pure x := by intro _; rfl) :
    PS X (.Assign [.Name y py] (.ListComp elt [⟨tg, iter, ifs, 0⟩] scope pos) spos) (tS C (setO i (lcM (own.map (·.2)) fa gg t el))) := by
  have h := ps_setLc hc hN hy hyl hsw hi ok (fun s H Ca cl fp => PG.exM fun M' => hg M' s H Ca cl fp) (fun s H Ca cl fp => PTs.exM fun M' => ht M' s H Ca cl fp) (fun s H Ca cl fp => PE.exM fun M' => he M' s H Ca cl fp) hs
  rcases hw with ⟨ho, hf⟩ | ⟨ho, hf⟩
  · exact PS.imp h (set_of ho hf fun σ H Q h => lc_go hv h)
  · exact PS.imp h (setO_of ho hf fun σ H Q h => lc_go hv h)

/-! ### a list of one's own, changed by its methods -/
/-- x.pop(k) -/
def popK (i : Nat) (f : MD D) : MD D := fun e => match e[i]? with
  | some (some (.lst _)) => (f e).bind fun p => match p.1, p.2[i]? with
    | .int k, some (some (.lst ds)) => if -(2 ^ 63) ≤ k ∧ k < 2 ^ 63 then match seqIndex? k ds.length with
      | some n => match ds[n]? with
        | some d => .ok (d, p.2.set i (some (.lst (ds.eraseIdx n))))
        | none => .bad
      | none => .bad
      else .bad
    | _, _ => .bad
  | _ => .bad
theorem IsDs.eraseIdx {k : Kx} {H : Hp} {M : Addr → Prop} : ∀ {ds : List D} {vs : List V} (n : Nat), IsDs k H M ds vs → IsDs k H M (ds.eraseIdx n) (vs.eraseIdx n)
  | [], _, n, h => by
    rw [show _ = [] from h]
    simp [IsDs]
  | d :: ds, vs, 0, ⟨v, r, e, _, h2⟩ => by
    subst e
    exact h2
  | d :: ds, vs, n + 1, ⟨v, r, e, h1, h2⟩ => by
    subst e
    exact ⟨v, _, rfl, h1, IsDs.eraseIdx n h2⟩
theorem je_popK {cp ap : Pos} (ho : i ∈ C.own) (hN : X.N[i]? = some x) (hv : Vis X.env.scope x) (he : PE X a (tE C f)) (hd : (x == ("__debug__" : Str)) = false := by decide) (hcd : (x == ("__classdict__" : Str)) = false := by decide)
    (hbase : attributeBase (.Name x px) "pop" X.env (eval (.Name x px) X.env) = eval (.Name x px) X.env := by rfl)
    (hfew : ((backTo cp (starEach [a] X.env)).all (fun x => !x.1) && (backToKw cp (keywordEach [] X.env)).all (fun x => x.1.isSome)
      && decide ([a].length + ([] : List Keyword).length + (if ([] : List Keyword).isEmpty then 0 else 1) < 30)) = true := by rfl)
    (hline : (ap.endLine == cp.line) = true := by rfl) (hs : starEach [a] X.env = (false, eval a X.env) :: starEach [] X.env := by rfl) (hplain : (backTo cp (starEach [] X.env)).any (·.1) = false := by rfl) :
    PE X (.Call (.Attribute (.Name x px) "pop" ap) [a] [] cp) (tE C (popK i f)) := by
  refine PE.imp (pe_bm PySem.F.plainAttrs_list PySem.F.slot_list_pop PySem.F.type_list_pop mt_popAt (pe_var hN hv hd hcd) (pa_cons he pa_nil hs) hbase hfew hline hs hplain) fun σ H Q ⟨e, s, o⟩ => ?_
  unfold popK at o
  split at o
  · rename_i ds0 h0
    obtain ⟨b, vs, h1, h2, h3⟩ := own_lst s ho h0
    refine ⟨.ref b, h1, .inl ⟨rfl, vs, .inl (.inl h2)⟩, e, s, (Out.bind o).imp (fun p hp => ?_) fun _ _ z => z⟩
    intro v H1 x1 s1 i1
    split at hp
    · rename_i k ds e1 e2
      split at hp
      · rename_i hk
        split at hp
        · rename_i n hn
          split at hp
          · rename_i d hd
            obtain ⟨b', ws, h4, h5, h6⟩ := own_lst s1 ho e2
            have eb : b' = b := by
              rw [h1] at h4
              cases h4
              rfl
            subst eb
            rw [e1] at i1
            cases i1
            obtain ⟨w, h7, h8⟩ := h6.get hd
            obtain ⟨s2, x2⟩ := s1.wlst ho h1 h5 (h6.eraseIdx n)
            exact ⟨b', ws, k, n, w, rfl, rfl, h5, hk.1, hk.2, by rw [h6.length]; exact hn, h7, hp w _ (x1.trans x2) s2 ((Stp.of x2).isD h8)⟩
          · exact hp.elim
        · exact hp.elim
      · exact hp.elim
    · exact hp.elim
  · exact o.elim
/-- x.pop() -/
def pop0 (i : Nat) : MD D := fun e => match e[i]? with
  | some (some (.lst ds)) => match ds[ds.length - 1]? with
    | some d => .ok (d, e.set i (some (.lst ds.dropLast)))
    | none => .bad
  | _ => .bad
theorem IsDs.dropLast {k : Kx} {H : Hp} {M : Addr → Prop} {ds : List D} {vs : List V} (h : IsDs k H M ds vs) : IsDs k H M ds.dropLast vs.dropLast := by
  rw [List.dropLast_eq_take, List.dropLast_eq_take, h.length]
  exact h.take _
theorem je_pop0 {cp ap : Pos} (ho : i ∈ C.own) (hN : X.N[i]? = some x) (hv : Vis X.env.scope x) (hd : (x == ("__debug__" : Str)) = false := by decide) (hcd : (x == ("__classdict__" : Str)) = false := by decide)
    (hbase : attributeBase (.Name x px) "pop" X.env (eval (.Name x px) X.env) = eval (.Name x px) X.env := by rfl) (hline : (ap.endLine == cp.line) = true := by rfl) :
    PE X (.Call (.Attribute (.Name x px) "pop" ap) [] [] cp) (tE C (pop0 i)) := by
  refine PE.imp (pe_bm0 PySem.F.plainAttrs_list PySem.F.slot_list_pop PySem.F.type_list_pop mt_pop (pe_var hN hv hd hcd) hbase hline) fun σ H Q ⟨e, s, o⟩ => ?_
  unfold pop0 at o
  split at o
  · rename_i ds h0
    split at o
    · rename_i d hd
      obtain ⟨b, vs, h1, h2, h3⟩ := own_lst s ho h0
      obtain ⟨w, h7, h8⟩ := h3.get hd
      obtain ⟨s2, x2⟩ := s.wlst ho h1 h2 h3.dropLast
      exact ⟨.ref b, h1, .inl ⟨rfl, vs, .inl (.inl h2)⟩, b, vs, w, rfl, rfl, h2, by rw [h3.length]; exact h7, o w _ x2 s2 ((Stp.of x2).isD h8)⟩
    · exact o.elim
  · exact o.elim
/-- x.insert(k, e) -/
def insK (i : Nat) (f g : MD D) : MD D := fun e => match e[i]? with
  | some (some (.lst _)) => (f e).bind fun p => (g p.2).bind fun q => match p.1, q.2[i]? with
    | .int k, some (some (.lst ds)) => if ds.length < sizeLine ∧ 0 ≤ k ∧ k < 2 ^ 63 then .ok (.non, q.2.set i (some (.lst (ds.take k.toNat ++ [q.1] ++ ds.drop k.toNat)))) else .bad
    | _, _ => .bad
  | _ => .bad
theorem je_insK {cp ap : Pos} (ho : i ∈ C.own) (hN : X.N[i]? = some x) (hv : Vis X.env.scope x) (he : PE X a (tE C f)) (he2 : PE X b (tE C g)) (hd : (x == ("__debug__" : Str)) = false := by decide) (hcd : (x == ("__classdict__" : Str)) = false := by decide)
    (hbase : attributeBase (.Name x px) "insert" X.env (eval (.Name x px) X.env) = eval (.Name x px) X.env := by rfl)
    (hfew : ((backTo cp (starEach [a, b] X.env)).all (fun x => !x.1) && (backToKw cp (keywordEach [] X.env)).all (fun x => x.1.isSome)
      && decide ([a, b].length + ([] : List Keyword).length + (if ([] : List Keyword).isEmpty then 0 else 1) < 30)) = true := by rfl)
    (hline : (ap.endLine == cp.line) = true := by rfl) (hs : starEach [a, b] X.env = (false, eval a X.env) :: starEach [b] X.env := by rfl) (hs2 : starEach [b] X.env = (false, eval b X.env) :: starEach [] X.env := by rfl) (hplain : (backTo cp (starEach [b] X.env)).any (·.1) = false := by rfl) :
    PE X (.Call (.Attribute (.Name x px) "insert" ap) [a, b] [] cp) (tE C (insK i f g)) := by
  refine PE.imp (pe_bm PySem.F.plainAttrs_list PySem.F.slot_list_insert PySem.F.type_list_insert mt_insert (pe_var hN hv hd hcd) (pa_cons he (pa_cons he2 pa_nil hs2) hs) hbase hfew hline hs hplain) fun σ H Q ⟨e, s, o⟩ => ?_
  unfold insK at o
  split at o
  · rename_i ds0 h0
    obtain ⟨b, vs, h1, h2, h3⟩ := own_lst s ho h0
    refine ⟨.ref b, h1, .inl ⟨rfl, vs, .inl (.inl h2)⟩, e, s, (Out.bind o).imp (fun p hp => ?_) fun _ _ z => z⟩
    intro v H1 x1 s1 i1
    refine ⟨p.2, s1, (Out.bind hp).imp (fun q hq => ?_) fun _ _ z => z.ext x1⟩
    intro w H2 x2 s2 i2
    split at hq
    · rename_i k ds e1 e2
      split at hq
      · rename_i hk
        obtain ⟨b', ws, h4, h5, h6⟩ := own_lst s2 ho e2
        have eb : b' = b := by
          rw [h1] at h4
          cases h4
          rfl
        subst eb
        rw [e1] at i1
        cases i1
        obtain ⟨s3, x3⟩ := s2.wlst ho h1 h5 (((h6.take k.toNat).app (.cons i2 .nil)).app (h6.drop k.toNat))
        exact ⟨b', ws, k, w, rfl, rfl, h5, by rw [h6.length]; exact hk.1, hk.2.1, hk.2.2, hq .non _ ((x1.trans x2).trans x3) s3 rfl⟩
      · exact hq.elim
    · exact hq.elim
  · exact o.elim

/-! ### list(range(..)) -/
def rngF (fa : MD (List D)) : MD (List D) := fun e => (fa e).bind fun q => match q.1 with
  | [.int j] => if -(2 ^ 62) ≤ j ∧ j < 2 ^ 62 ∧ j.toNat ≤ 2 ^ 24 then .ok (rngL 0 j.toNat, q.2) else .bad
  | _ => .bad
theorem rngV_isDs {k : Kx} {H : Hp} {M : Addr → Prop} (lo hi : Int) : IsDs k H M (rngL lo (hi - lo).toNat) (rgV lo hi) := by
  unfold rngL rgV
  have : ∀ l : List Nat, IsDs k H M (l.map fun (i : Nat) => D.int (lo + (i : Int))) (l.map fun (i : Nat) => V.int (lo + (i : Int))) := fun l => by
    induction l with
    | nil => exact rfl
    | cons n r ih => exact .cons rfl ih
  exact this _
def rngF1 (f : MD D) : MD (List D) := fun e => (f e).bind fun q => match q.1 with
  | .int j => if -(2 ^ 62) ≤ j ∧ j < 2 ^ 62 ∧ j.toNat ≤ 2 ^ 24 then .ok (rngL 0 j.toNat, q.2) else .bad
  | _ => .bad
theorem jf_lrng (hc : X.calm = true) (hgl : Gl X "list") (hml : X.mg "list" = none) (hg : Gl X "range") (hm : X.mg "range" = none) (ha : PE X a (tE C f)) (na : starEach [a] X.env = (false, eval a X.env) :: starEach [] X.env := by rfl)
    (na2 : starEach [(.Call (.Name "range" p) [a] [] p2 : Expr)] X.env = (false, eval (.Call (.Name "range" p) [a] [] p2) X.env) :: starEach [] X.env := by rfl) : PE X (.Call (.Name "list" px) [.Call (.Name "range" p) [a] [] p2] [] pos) (tF C (rngF1 f)) := by
  refine PE.imp (pe_listRg hc hgl hml (prg_1 hg hm ha na) na2) fun σ H Q ⟨e, s, o⟩ => ⟨e, s, (Out.bind o).imp (fun q hq => ?_) fun _ _ z => z⟩
  intro v H1 x1 s1 i1
  split at hq
  · rename_i j e1
    split at hq
    · rename_i hj
      rw [e1] at i1
      cases i1
      refine ⟨j, rfl, ⟨by decide, by decide, hj.1, hj.2.1, by simpa using hj.2.2⟩, fun l hl => ?_⟩
      have := hq (rgV 0 j) H1 l x1 s1 (by simpa using rngV_isDs (k := C.k) (H := H1) (M := MO C σ) 0 j) hl
      exact this
    · exact hq.elim
  · exact hq.elim

end
end Dn

namespace Dn
open PySem PySem.Spec PyProof.Rows L2
/-! ### x[::-1] -/
section
variable {prog : Program} {w : World} {A : Around} {E : Value → Shared → Prop} {s : Shared}
theorem places_rev (n : Nat) : Builtin.Slice.slicePlaces ((n : Int) - 1) (-1) (-1) = n := by
  unfold Builtin.Slice.slicePlaces
  rw [if_neg (by decide)]
  by_cases h : n = 0
  · subst h
    rfl
  · rw [if_pos (by omega)]
    show ((((n : Int) - 1 - -1 - 1) / 1) + 1).toNat = n
    rw [Int.ediv_one]
    omega
theorem adjust_rev (n : Int) : Builtin.Slice.sliceAdjust none none (-1) n = (n - 1, -1) := rfl
theorem pick_rev (xs : Array Value) : ((List.range xs.size).filterMap fun (m : Nat) => xs[(((xs.size : Nat) : Int) - 1 + (m : Int) * -1).toNat]?).toArray = xs.toList.reverse.toArray := by
  congr 1
  have h : ((List.range xs.size).filterMap fun (m : Nat) => xs[(((xs.size : Nat) : Int) - 1 + (m : Int) * -1).toNat]?) = ((List.range xs.size).map fun k => xs.size - 1 - k).filterMap (xs[·]?) := by
    rw [List.filterMap_map]
    have key : ∀ l : List Nat, (∀ m ∈ l, m < xs.size) → (l.filterMap fun (m : Nat) => xs[(((xs.size : Nat) : Int) - 1 + (m : Int) * -1).toNat]?) = l.filterMap ((fun x => xs[x]?) ∘ fun k => xs.size - 1 - k) := fun l => by
      induction l with
      | nil => intro _; rfl
      | cons m r ih =>
        intro hm
        have h1 := hm m (List.mem_cons_self ..)
        have e : (((xs.size : Nat) : Int) - 1 + (m : Int) * -1).toNat = xs.size - 1 - m := by omega
        rw [List.filterMap_cons, List.filterMap_cons, ih fun k hk => hm k (List.mem_cons_of_mem _ hk)]
        have e2 : ((fun x => xs[x]?) ∘ fun k => xs.size - 1 - k) m = xs[(((xs.size : Nat) : Int) - 1 + (m : Int) * -1).toNat]? := by
          rw [e] <;> rfl
        rw [e2]
    exact key _ fun m hm => List.mem_range.mp hm
  rw [h, PySem.W.krv_range, List.filterMap_reverse, PySem.W.krv_all]
theorem sliceApplied_rev {sl : Addr} {vs : Value} {n : Nat} {Q : Int × Int × Nat → Shared → Prop} (hs : s.heap.IsSliceOf sl .none .none vs) (ps : PySem.IsPart vs (some (-1)))
    (h : Q ((n : Int) - 1, -1, n) s) : wpAny (model prog w) A (Builtin.Slice.sliceApplied (.ref sl) (pure (n : Int))) Q E s := by
  obtain ⟨os, hos, hcs, hds⟩ := id hs
  unfold Builtin.Slice.sliceApplied Builtin.Slice.sliceFields
  refine wpAny_bind (wpAny_bind (wpAny_field hos hds (x := .none) rfl (wpAny_bind (wpAny_field hos hds (x := .none) rfl (wpAny_bind (wpAny_field hos hds (x := vs) rfl (wpAny_pure ?_)))))))
  refine wpAny_bind (HT.slicePart_ ps ?_)
  show wpAny _ _ (if ((-1 : Int) == 0) = true then _ else _) _ _ s
  rw [if_neg (by decide)]
  refine wpAny_bind (HT.slicePart_ .none (wpAny_bind (HT.slicePart_ .none (wpAny_bind (wpAny_pure ?_)))))
  show wpAny _ _ (match Builtin.Slice.sliceAdjust none none (-1) (n : Int) with | (lo, hi) => pure (lo, (-1 : Int), Builtin.Slice.slicePlaces lo hi (-1))) _ _ s
  rw [adjust_rev]
  show wpAny _ _ (pure ((n : Int) - 1, (-1 : Int), Builtin.Slice.slicePlaces ((n : Int) - 1) (-1) (-1))) _ _ s
  rw [places_rev]
  exact wpAny_pure h
theorem getItem_tuple_rev {t sl : Addr} {items : Array Value} {vs : Value} {Q : Value → Shared → Prop} (ht : IsTup s.heap t items) (hs : s.heap.IsSliceOf sl .none .none vs) (ps : PySem.IsPart vs (some (-1)))
    (h : Q (.ref s.heap.objs.size) { s with heap := s.heap.push { cls := .type "tuple", data := .seq items.toList.reverse.toArray } })
    (hsz : items.size ≤ sizeLine) : wpAny (model prog w) A (getItem (.ref t) (.ref sl)) Q E s := by
  have htake : sizeOk (.seq items.toList.reverse.toArray) := by
    show items.toList.reverse.toArray.size ≤ sizeLine
    rw [List.size_toArray, List.length_reverse, Array.length_toList]
    exact hsz
  obtain ⟨os, hos, hcs, hds⟩ := id hs
  have hTs : s.TypeIs (.ref sl) "slice" := ⟨os, hos, hcs⟩
  unfold getItem
  try with_reducible refine wpAny_holding ?_
  first | refine wpAny_bind (wpAny_pure ?_) | skip
  refine wpAny_bind (wpAny_sequenceKey ht.typeIs (by decide) ?_)
  refine wpAny_bind (wpAny_callSpecial?_slot (name := Str.ofString "__getitem__") ht.typeIs PyProof.Rows.slot_tuple_getitem
    (wpAny_call_entry PyProof.Rows.slot_tuple_getitem ht.typeIs entry_tuple_getitem ?_ (args_tuple_getitem _ _)))
  show wpAny _ _ (Builtin.Tuple.tupleItemsOf (.ref t) >>= _) _ _ s
  refine wpAny_bind (tupleItemsOf_ ht ?_)
  refine wpAny_bind (wpAny_typeOf hTs ?_)
  rw [if_pos (by decide)]
  refine wpAny_bind (sliceApplied_rev hs ps ?_)
  have hno : ¬ ((((items.size : Nat) : Int) - 1 == 0 && (-1 : Int) == 1 && items.size == items.size) = true) := by
    intro q
    rw [Bool.and_eq_true, Bool.and_eq_true] at q
    have q2 := q.1.2
    revert q2
    decide
  show wpAny _ _ (if (((items.size : Nat) : Int) - 1 == 0 && (-1 : Int) == 1 && items.size == items.size) = true then _ else _) _ _ s
  rw [if_neg hno, pick_rev]
  first
    | exact wpAny_bind (m := Builtin.Tuple.tupleExact _) (wpAny_newObj_type (wpAny_pure ⟨_, rfl, wpAny_pure h⟩) htake)
    | exact wpAny_bind (m := Builtin.Tuple.tupleExact _) (wpAny_newObj_type (wpAny_bind (wpAny_pure (wpAny_pure ⟨_, rfl, wpAny_pure h⟩))) htake)
    | exact wpAny_bind (wpAny_bind (m := Builtin.Tuple.tupleExact _) (wpAny_newObj_type (wpAny_pure (wpAny_pure ⟨_, rfl, wpAny_pure h⟩)) htake))
    | exact wpAny_bind (wpAny_bind (m := Builtin.Tuple.tupleExact _) (wpAny_newObj_type (wpAny_pure ⟨_, rfl, wpAny_pure h⟩) htake))
end
def revS (z : Str) : Str := ⟨z.cps.toList.reverse.toArray⟩
theorem strRev (z : Str) : ((Builtin.Str.strSliceIndices none none (-1) z.length).filterMap (z.cps[·]?)).toArray = z.cps.toList.reverse.toArray := by
  congr 1
  have e : Builtin.Str.strSliceIndices none none (-1) z.length = (List.range z.length).map fun k => z.length - 1 - k := by
    unfold Builtin.Str.strSliceIndices
    show sliceRange ((z.length : Int) - 1) (-1) (-1) = _
    exact PySem.W.krv_sliceRange _
  rw [e, PySem.W.krv_range, List.filterMap_reverse]
  have : (List.range z.length).filterMap (z.cps[·]?) = z.cps.toList := PySem.W.krv_all z.cps
  rw [this]
def rRev (K : PySem.W.Frag) : V → Hp → VK → Prop := fun x H Q => (∃ a xs, x = .ref a ∧ SqL K H a xs ∧ ∀ p, H p = none → Q (.ref p) (upd H p (.lst xs.reverse))) ∨ (∃ a xs, x = .ref a ∧ SqT K H a xs ∧ ∀ p, H p = none → Q (.ref p) (upd H p (.tup xs.reverse))) ∨ ∃ z, x = .str z ∧ z.length ≤ sizeLine ∧ Q (.str (revS z)) H
section
variable {X : Cx} {C : Ct}
theorem pe_rev {e : Expr} {te : TE} {k : Nat} {p1 p2 p3 pos : Pos} (he : PE X e te) : PE X (.Subscript e (.Slice none none (some (.UnaryOp .USub (.Constant (.int 1) k p1) p2)) p3) pos) (tUn (rRev X.K) te) := by
  refine ⟨fun pins s σ H Q I h => ?_⟩
  refine Subscript_ (thn (he.run pins s σ H _ I h) fun v s1 ⟨x, H1, I1, r1, q1⟩ => ?_)
  have hst : PO X (some (.UnaryOp .USub (.Constant (.int 1) k p1) p2)) (tPart (tUn (rU fun i => .int (-i)) (tC (.int 1)))) := po_some (pe_un un_neg pe_int)
  refine wpAny_Slice (thn (po_none.run pins s1 σ H1 (fun o H2 => o = none ∧ H2 = H1) I1 ⟨rfl, rfl⟩) fun vl s2 ⟨l, H2, I2, pl, el, e2⟩ => ?_)
  subst el e2
  refine thn (po_none.run pins s2 σ H2 (fun o H3 => o = none ∧ H3 = H2) I2 ⟨rfl, rfl⟩) fun vu s3 ⟨u, H3, I3, pu, eu, e3⟩ => ?_
  subst eu e3
  refine thn (hst.run pins s3 σ H3 (fun o H4 => o = some (-1) ∧ H4 = H3) I3 ⟨1, rfl, -1, rfl, rfl, rfl⟩) fun vs s4 ⟨o, H4, I4, ps, eo, e4⟩ => ?_
  subst eo e4
  have I5 : Inv X pins σ H4 { s4 with heap := s4.heap.push { cls := .type "slice", data := .fields #[vl, vu, vs] } } := I4.kept (t' := s4.toks) fun b ob q => Heap.get?_push_of_some _ q
  have evl : vl = .none := by cases pl; rfl
  have evu : vu = .none := by cases pu; rfl
  subst evl evu
  show wpAny (model X.prog X.w) X.A (subscriptTail e (.Slice none none (some (.UnaryOp .USub (.Constant (.int 1) k p1) p2)) p3) v (.ref s4.heap.objs.size)) (EP X pins σ Q) X.xe { s4 with heap := s4.heap.push { cls := .type "slice", data := .fields #[.none, .none, vs] } }
  rcases q1 with ⟨a, xs, rfl, hx, q⟩ | ⟨a, xs, rfl, hx, q⟩ | ⟨z, rfl, hz, q⟩
  · cases r1
    obtain ⟨its, r, ht, hz⟩ := I5.list hx
    have hlen := r.length
    refine tail_any (ops := [.ref a, .ref s4.heap.objs.size]) ht.isList.typeIs (PySem.slot_list_getitem.lookup) ?_ (by with_unfolding_all rfl)
    refine wpAny_getItem_list_slice ht.isList (Heap.IsSliceOf.new _ .none .none vs) pl pu ps (by decide) ?_ (by rw [List.size_toArray]; omega)
    rw [PySem.W.krv_pick]
    refine ⟨.ref _, _, I5.laid (t' := s4.toks) (o := .lst xs.reverse) (fun b ob q => Heap.get?_push_of_some _ q) (Nat.le_refl _) ?_, rfl, q _ (I5.hok.fresh (Nat.le_refl _))⟩
    exact ⟨by rw [List.length_reverse]; exact hz, _, 0, r.reverse, Heap.get?_push_size _ rfl⟩
  · cases r1
    obtain ⟨its, r, ht, hz⟩ := I5.tuple hx
    have hlen := r.length
    refine tail_any (ops := [.ref a, .ref s4.heap.objs.size]) ht.typeIs (PyProof.Rows.slot_tuple_getitem.lookup) ?_ (by with_unfolding_all rfl)
    refine getItem_tuple_rev ht (Heap.IsSliceOf.new _ .none .none vs) ps ?_ (by rw [List.size_toArray]; omega)
    refine ⟨.ref _, _, I5.laid (t' := s4.toks) (o := .tup xs.reverse) (fun b ob q => Heap.get?_push_of_some _ q) (Nat.le_refl _) ?_, rfl, q _ (I5.hok.fresh (Nat.le_refl _))⟩
    exact ⟨by rw [List.length_reverse]; exact hz, _, r.reverse, _, Heap.get?_push_size _ rfl, rfl, 0, rfl⟩
  · obtain ⟨t, rfl⟩ := r1
    obtain ⟨st, rfl, hst'⟩ := IsPart.raw ps
    refine tail_any (ops := [.ref s4.heap.objs.size, .str z t]) (typeIs_str _ _ _) F.slot_str_getitem.lookup ?_ (by with_unfolding_all rfl)
    refine wpAny_getItem_str_slice (l := none) (u := none) (st := st) ⟨_, Heap.get?_push_size _ rfl, rfl, rfl⟩ (by rw [hst']; rfl) ?_
    have e1 : PySem.sliceMade z t none none st = Made.str (revS z) := by
      unfold PySem.sliceMade
      rw [if_neg (by rw [hst']; simp)]
      congr 1
      unfold PySem.slicePicked
      rw [hst']
      exact congrArg Str.mk (strRev z)
    rw [e1]
    exact ⟨by
      show (revS z).cps.size ≤ sizeLine
      unfold revS
      rw [List.size_toArray, List.length_reverse, Array.length_toList]
      exact hz, .str _, _, I5.tok _, ⟨_, rfl⟩, q⟩
def revD : D → R D
  | .lst ds => .ok (.lst ds.reverse)
  | .tup ds => .ok (.tup ds.reverse)
  | .str z => if z.length ≤ sizeLine then .ok (.str (revS z)) else .bad
  | _ => .bad
theorem revD_nx (a : D) (y : Ex) (l : Lc) : revD a ≠ .exc y l := by
  unfold revD
  split <;> (try split) <;> simp
theorem und_rev : UnD C (rRev C.k.K) revD := by
  intro σ e H x d1 Q s i1 q
  unfold revD at q
  split at q
  · obtain ⟨a, vs, rfl, h1, h2⟩ := i1
    exact .inl ⟨a, vs, rfl, .inl (.inl h1), fun p hp => q.lst s hp h2.rev⟩
  · obtain ⟨a, vs, rfl, h1, h2⟩ := i1
    exact .inr (.inl ⟨a, vs, rfl, h1, fun p hp => q.tup (e := e) hp h2.rev⟩)
  · split at q
    · rename_i hz
      cases i1
      exact .inr (.inr ⟨_, rfl, hz, q.val rfl⟩)
    · exact q.elim
  · exact q.elim
theorem je_rev {e : Expr} {f : MD D} {k : Nat} {p1 p2 p3 pos : Pos} (hK : C.k.K = X.K) (he : PE X e (tE C f)) : PE X (.Subscript e (.Slice none none (some (.UnaryOp .USub (.Constant (.int 1) k p1) p2)) p3) pos) (tE C (un1 revD f)) := by
  refine PE.imp (pe_rev he) fun σ H Q h => ?_
  rw [← hK]
  exact tE_un und_rev revD_nx σ H Q h
end
end Dn

namespace Dn
open PySem PySem.Spec PyProof.Rows L2
section
variable {X : Cx} {C : Ct} {a b c : Expr} {es : List Expr} {pos p p2 px : Pos} {f g : MD D} {fa : MD (List D)} {i : Nat} {x y : Str}
/-! ### is True -/
def isB : D → D → R D
  | .bl x, .bl y => .ok (.bl (decide (x = y)))
  | _, _ => .bad
def isNB : D → D → R D
  | .bl x, .bl y => .ok (.bl (!decide (x = y)))
  | _, _ => .bad
theorem isB_nx (a b : D) (y : Ex) (l : Lc) : isB a b ≠ .exc y l := by
  unfold isB
  split <;> simp
theorem isNB_nx (a b : D) (y : Ex) (l : Lc) : isNB a b ≠ .exc y l := by
  unfold isNB
  split <;> simp
theorem opd_isB : OpD C rIsB isB := by
  intro σ e H x y d1 d2 Q s i1 i2 q
  unfold isB at q
  split at q
  · cases i1
    cases i2
    exact ⟨_, _, rfl, rfl, q.val rfl⟩
  · exact q.elim
theorem opd_isNB : OpD C rNotB isNB := by
  intro σ e H x y d1 d2 Q s i1 i2 q
  unfold isNB at q
  split at q
  · cases i1
    cases i2
    exact ⟨_, _, rfl, rfl, q.val rfl⟩
  · exact q.elim

/-! ### t == (), t != () -/
def rNeT0 (K : PySem.W.Frag) : R2 := fun x y H Q => ∃ a b xs, x = .ref a ∧ y = .ref b ∧ SqT K H a xs ∧ SqT K H b [] ∧ Q (.bl (!xs.isEmpty)) H
theorem op_neT0 (hu : X.A.units + 64 < cLine) : OpR X (compareOp .NotEq) (rNeT0 X.K) := by
  intro pins s σ H x y v u Q I rx ry h
  obtain ⟨a, b, xs, rfl, rfl, h1, h2, q⟩ := h
  cases rx
  cases ry
  obtain ⟨its, r, ht, hz⟩ := I.tuple h1
  obtain ⟨its2, r2, ht2, hz2⟩ := I.tuple h2
  cases r2
  have key := PySem.SeqAt.RcNeAt.tuples (A := X.A) (s := s) (l := a) (b := b) (items := its.toArray) (items2 := #[]) (e := fun _ => true) ht ht2 (by omega) (fun j _ h => by simp at h)
  refine key X.prog X.w X.xe _ ⟨.bl (!xs.isEmpty), H, I, ?_, q⟩
  have hl := r.length
  cases xs <;> cases its <;> simp_all <;> rfl
def neT0 (a b : D) : R D := match a, b with
  | .tup xs, .tup [] => .ok (.bl (!xs.isEmpty))
  | _, _ => .bad
theorem neT0_nx (a b : D) (y : Ex) (l : Lc) : neT0 a b ≠ .exc y l := by
  unfold neT0
  split <;> simp
theorem opd_neT0 : OpD C (rNeT0 C.k.K) neT0 := by
  intro σ e H x y d1 d2 Q s i1 i2 q
  unfold neT0 at q
  split at q
  · rename_i xs
    obtain ⟨a, vs, rfl, h1, h2⟩ := i1
    obtain ⟨b, ws, rfl, h3, h4⟩ := i2
    rw [show ws = [] from h4] at h3
    refine ⟨a, b, vs, rfl, rfl, h1, h3, ?_⟩
    rw [← isEmpty_ds h2]
    exact q.val rfl
  · exact q.elim

/-! ### upper -/
def upD : D → R D
  | .str z => if z.length ≤ 5592405 then .ok (.str (Txt.upper z)) else .bad
  | _ => .bad
theorem upD_nx (a : D) (y : Ex) (l : Lc) : upD a ≠ .exc y l := by
  unfold upD
  split <;> (try split) <;> simp
theorem je_upper {apos : Pos} (ha : PE X a (tE C f)) (hbase : attributeBase a "upper" X.env (eval a X.env) = eval a X.env := by rfl) (hline : (apos.endLine == pos.line) = true := by rfl) : PE X (.Call (.Attribute a "upper" apos) [] [] pos) (tE C (un1 upD f)) := by
  refine PE.imp (pe_upper ha hbase hline) fun σ H Q ⟨e, s, o⟩ => ⟨e, s, (Out.bind o).imp (fun p hp => ?_) fun _ _ z => z⟩
  obtain ⟨d, e1⟩ := p
  intro v H1 x1 s1 i1
  cases d with
  | str z =>
    cases i1
    have hp2 : Out (PO1 C σ H Q) (XO C σ H) ((if z.length ≤ 5592405 then R.ok (D.str (Txt.upper z)) else .bad).at e1) := hp
    by_cases hz : z.length ≤ 5592405
    · rw [if_pos hz] at hp2
      exact ⟨⟨z, rfl⟩, z, rfl, rfl, hz, hp2 _ H1 x1 s1 rfl⟩
    · rw [if_neg hz] at hp2
      exact hp2.elim
  | _ => exact hp.elim

/-! ### zip of two lists, of two tuples -/
def zipL : List D → List D → List D
  | x :: xs, y :: ys => .tup [x, y] :: zipL xs ys
  | _, _ => []
theorem zipL_get : ∀ (xs ys : List D) (i : Nat), (zipL xs ys)[i]? = match xs[i]?, ys[i]? with
    | some x, some y => some (.tup [x, y])
    | _, _ => none
  | [], ys, i => by simp [zipL]
  | x :: xs, [], i => by
    simp [zipL]
  | x :: xs, y :: ys, 0 => by simp [zipL]
  | x :: xs, y :: ys, i + 1 => by
    simp only [zipL, List.getElem?_cons_succ]
    exact zipL_get xs ys i
theorem zipL_len : ∀ (xs ys : List D), (zipL xs ys).length = min xs.length ys.length
  | [], ys => by simp [zipL]
  | x :: xs, [] => by simp [zipL]
  | x :: xs, y :: ys => by
    simp only [zipL, List.length_cons, zipL_len xs ys]
    omega
def zipM (fa : MD (List D)) : MD (List D) := fun e => (fa e).bind fun q => match q.1 with
  | [.lst xs, .lst ys] => .ok (zipL xs ys, q.2)
  | [.tup xs, .tup ys] => .ok (zipL xs ys, q.2)
  | _ => .bad
theorem zip_item {M' : Addr → Prop} {H2 : Hp} {d1 d2 d' : D} {x1 x2 : V} {T : Addr} (hT : H2 T = none) (h1 : IsD C.k H2 M' d1 x1) (h2 : IsD C.k H2 M' d2 x2) (he : d' = D.tup [d1, d2]) : Same H2 (upd H2 T (.tup [x1, x2])) ∧ IsD C.k (upd H2 T (.tup [x1, x2])) M' d' (.ref T) := by
  subst he
  exact ⟨same_upd' hT, IsD.newT' hT (.cons h1 (.cons h2 .nil))⟩
theorem itd_zip {K : PySem.W.Frag} {σ : L2.St} {H : Hp} {ds es : List D} {J : It} {vs ws : List V} (Rv Rw : Hp → List V → Prop)
    (r1 : ∀ H2, Ext (MO C σ) H H2 → Rv H2 vs) (r2 : ∀ H2, Ext (MO C σ) H H2 → Rw H2 ws) (h2 : IsDs C.k H (MO C σ) ds vs) (h4 : IsDs C.k H (MO C σ) es ws)
    (hg : ∀ i H, J.go i H = ∃ (xs ys : List V) (x y : V), Rv H xs ∧ Rw H ys ∧ xs[i]? = some x ∧ ys[i]? = some y)
    (hy : ∀ i H v H', J.yld i H v H' = ∃ T x y, v = .ref T ∧ H T = none ∧ H' = upd H T (.tup [x, y]) ∧ (∀ xs, Rv H xs → xs[i]? = some x) ∧ ∀ ys, Rw H ys → ys[i]? = some y)
    (hs : ∀ i H, J.stop i H = ∃ xs ys : List V, Rv H xs ∧ Rw H ys ∧ (xs.length ≤ i ∨ ys.length ≤ i)) : ItD C σ H (zipL ds es) J := by
  have split : ∀ {i d}, (zipL ds es)[i]? = some d → ∃ d1 d2, ds[i]? = some d1 ∧ es[i]? = some d2 ∧ d = D.tup [d1, d2] := fun {i d} h => by
    rw [zipL_get] at h
    cases e1 : ds[i]? with
    | none => rw [e1] at h; cases h
    | some d1 =>
      cases e2 : es[i]? with
      | none => rw [e1, e2] at h; cases h
      | some d2 =>
        rw [e1, e2] at h
        exact ⟨d1, d2, e1, e2, (Option.some.inj h).symm⟩
  refine ⟨fun H2 i d x hd => ?_, fun H2 M' i d x H3 xx mm hd hyy => ?_, fun H2 x => ?_⟩
  · obtain ⟨d1, d2, e1, e2, _⟩ := split hd
    obtain ⟨v, hv, _⟩ := h2.get e1
    obtain ⟨w, hw, _⟩ := h4.get e2
    rw [hg]
    exact ⟨vs, ws, v, w, r1 H2 x, r2 H2 x, hv, hw⟩
  · rw [hy] at hyy
    obtain ⟨T, u1, u2, rfl, hT, rfl, hx1, hx2⟩ := hyy
    obtain ⟨d1, d2, e1, e2, e3⟩ := split hd
    obtain ⟨v, hv, iv⟩ := (IsDs.step xx mm _ _ h2).get e1
    obtain ⟨w, hw, iw⟩ := (IsDs.step xx mm _ _ h4).get e2
    have z1 := hx1 vs (r1 _ xx)
    have z2 := hx2 ws (r2 _ xx)
    rw [hv] at z1
    rw [hw] at z2
    cases z1
    cases z2
    exact zip_item hT iv iw e3
  · rw [hs]
    refine ⟨vs, ws, r1 H2 x, r2 H2 x, ?_⟩
    rw [zipL_len, h2.length, h4.length]
    omega
theorem ji_zip {elts : List Expr} {kk : Nat} {tpos : Pos} (hK : C.k.K = X.K) (hg : Gl X "zip") (hm : X.mg "zip" = none) (ha : PA X [a, b] (tA C fa))
    (hs : starEach [a, b] X.env = (false, eval a X.env) :: starEach [b] X.env := by rfl) (hpl : (backTo pos (starEach [b] X.env)).any (·.1) = false := by rfl) : PI X (.Tuple elts kk tpos) (.Call (.Name "zip" p) [a, b] [] pos) (tI C (zipM fa)) := by
  refine PI.imp (RZ.pi_zipA hg hm ha hs hpl) fun σ H R ⟨e, s, o⟩ => ⟨e, s, (Out.bind o).imp (fun q hq => ?_) fun _ _ z => z⟩
  rw [← hK]
  intro us H1 x1 s1 i1
  split at hq
  · rename_i xs ys e1
    rw [e1] at i1
    obtain ⟨v, r, rfl, ⟨l1, vs, rfl, h1, n1, h2⟩, ⟨w, r', e2, ⟨l2, ws, rfl, h3, n2, h4⟩, h5⟩⟩ := i1
    rw [show r' = [] from h5] at e2
    subst e2
    refine ⟨l1, l2, vs, ws, rfl, .inl ⟨.inl (.inl h1), .inl (.inl h3), hq _ H1 x1 s1 (itd_zip (K := C.k.K) (fun H xs => SqL C.k.K H l1 xs) (fun H xs => SqL C.k.K H l2 xs) (fun H2 x => .inl (.inl (x l1 _ h1 (.inl n1)))) (fun H2 x => .inl (.inl (x l2 _ h3 (.inl n2)))) h2 h4 (fun _ _ => rfl) (fun _ _ _ _ => rfl) (fun _ _ => rfl))⟩⟩
  · rename_i xs ys e1
    rw [e1] at i1
    obtain ⟨v, r, rfl, ⟨l1, vs, rfl, h1, h2⟩, ⟨w, r', e2, ⟨l2, ws, rfl, h3, h4⟩, h5⟩⟩ := i1
    rw [show r' = [] from h5] at e2
    subst e2
    refine ⟨l1, l2, vs, ws, rfl, .inr ⟨h1, h3, hq _ H1 x1 s1 (itd_zip (K := C.k.K) (fun H xs => SqT C.k.K H l1 xs) (fun H xs => SqT C.k.K H l2 xs) (fun H2 x => x.sqT h1) (fun H2 x => x.sqT h3) h2 h4 (fun _ _ => rfl) (fun _ _ _ _ => rfl) (fun _ _ => rfl))⟩⟩
  · exact hq.elim

/-! ### {} -/
theorem je_dct0 : PE X (.Dict [] [] pos) (tE C (cst (.dct [] []))) := by
  refine PE.imp pe_dnewK fun σ H Q ⟨e, s, o⟩ => fun p hp => ?_
  exact o (.ref p) _ (Ext.upd hp) (s.grow hp) ⟨p, [], rfl, upd_same, s.fresh hp, rfl, rfl⟩

/-! ### a dict of the module, text keys -/
/-- what is known of it: the keys asked for, and what stands there -/
structure KTab (k : Kx) (w : World) (d : Addr) (tbl : List (Str × Option D)) : Prop where
  kd : ∃ es n, KDict k.K w d es n
  get : ∀ q ∈ tbl, match q.2 with
    | none => PySem.W.nsIn k.K d q.1 = some none
    | some r => ∃ u v, PySem.W.nsIn k.K d q.1 = some (some u) ∧ RelV v u ∧ ∀ H M, IsD k H M r v
def lookS (tbl : List (Str × Option D)) (z : Str) : Option (Option D) := (tbl.find? fun q => decide (q.1 = z)).map (·.2)
theorem lookS_mem {tbl : List (Str × Option D)} {z : Str} {r : Option D} (h : lookS tbl z = some r) : (z, r) ∈ tbl := by
  unfold lookS at h
  cases e : tbl.find? fun q => decide (q.1 = z) with
  | none => rw [e] at h; cases h
  | some q =>
    rw [e] at h
    have h1 := List.mem_of_find?_eq_some e
    have h2 := of_decide_eq_true (List.find?_some (p := fun q : Str × Option D => decide (q.1 = z)) e)
    have h3 : q.2 = r := Option.some.inj h
    have : q = (z, r) := by rw [← h2, ← h3]
    rwa [← this]
def inKt (neg : Bool) (tbl : List (Str × Option D)) : D → R D
  | .str z => match lookS tbl z with
    | some r => .ok (.bl (if neg then !r.isSome else r.isSome))
    | none => .bad
  | _ => .bad
def getKt (tbl : List (Str × Option D)) : D → R D
  | .str z => match lookS tbl z with
    | some (some r) => .ok r
    | _ => .bad
  | _ => .bad
theorem je_inK {d : Addr} {tbl : List (Str × Option D)} (hK : C.k.K = X.K) (T : KTab C.k X.w d tbl) (hg : Gl X x) (hm : X.mg x = some (.ref d)) (ha : PE X a (tE C f)) (hdb : (x == ("__debug__" : Str)) = false := by decide) (hmk : behindInMarks .In (.Name x px) = false := by rfl) : PE X (.Compare a [.In] [.Name x px] pos) (tE C (un1 (inKt false tbl) f)) := by
  obtain ⟨es, n, kd⟩ := T.kd
  have kd' : KDict X.K X.w d es n := by
    rw [← hK]
    exact kd
  refine PE.imp (pe_cmpR (op_in_kd kd') ha (pe_glob (v := .ref d) hg hm rfl hdb) hmk) fun σ H Q ⟨e, s, o⟩ => ⟨e, s, (Out.bind o).imp (fun q hq => ?_) fun _ _ z => z⟩
  intro v H1 x1 s1 i1
  unfold inKt at hq
  split at hq
  · rename_i z e1
    rw [e1] at i1
    cases i1
    split at hq
    · rename_i r hr
      have h2 := T.get _ (lookS_mem hr)
      cases r with
      | none => exact ⟨z, none, rfl, rfl, by rw [← hK]; exact h2, hq _ H1 x1 s1 rfl⟩
      | some r =>
        obtain ⟨u, v, h3, _⟩ := h2
        exact ⟨z, some u, rfl, rfl, by rw [← hK]; exact h3, hq _ H1 x1 s1 rfl⟩
    · exact hq.elim
  · exact hq.elim
theorem je_notInK {d : Addr} {tbl : List (Str × Option D)} (hK : C.k.K = X.K) (T : KTab C.k X.w d tbl) (hg : Gl X x) (hm : X.mg x = some (.ref d)) (ha : PE X a (tE C f)) (hdb : (x == ("__debug__" : Str)) = false := by decide) (hmk : behindInMarks .NotIn (.Name x px) = false := by rfl) : PE X (.Compare a [.NotIn] [.Name x px] pos) (tE C (un1 (inKt true tbl) f)) := by
  obtain ⟨es, n, kd⟩ := T.kd
  have kd' : KDict X.K X.w d es n := by
    rw [← hK]
    exact kd
  refine PE.imp (pe_cmpR (op_notIn_kd kd') ha (pe_glob (v := .ref d) hg hm rfl hdb) hmk) fun σ H Q ⟨e, s, o⟩ => ⟨e, s, (Out.bind o).imp (fun q hq => ?_) fun _ _ z => z⟩
  intro v H1 x1 s1 i1
  unfold inKt at hq
  split at hq
  · rename_i z e1
    rw [e1] at i1
    cases i1
    split at hq
    · rename_i r hr
      have h2 := T.get _ (lookS_mem hr)
      cases r with
      | none => exact ⟨z, none, rfl, rfl, by rw [← hK]; exact h2, hq _ H1 x1 s1 rfl⟩
      | some r =>
        obtain ⟨u, v, h3, _⟩ := h2
        exact ⟨z, some u, rfl, rfl, by rw [← hK]; exact h3, hq _ H1 x1 s1 rfl⟩
    · exact hq.elim
  · exact hq.elim
theorem ix_kt {d : Addr} {es : Array DictEntry} {n : Nat} (D : KDict X.K X.w d es n) : IxR X (fun x y H Q => ∃ (z : Str) (u0 : Value) (v0 : V), x = .ref d ∧ y = .str z ∧ PySem.W.nsIn X.K d z = some (some u0) ∧ RelV v0 u0 ∧ Q v0 H) := by
  intro value slice pins s σ H x y v u Q I rx ry h hs
  obtain ⟨z, u0, v0, rfl, rfl, e, r, q⟩ := h
  cases rx
  obtain ⟨t, rfl⟩ := ry
  have hm := PySem.W.mapOf_K (prog := X.prog) (w := X.w) I.kIn D.at_ D.lit
  exact tail_any hm.typeIs slot_dict_getitem.lookup (wpAny_getItem_of (PySem.strKind_is X.prog X.w z t) hm (PySem.W.find_K D.at_ e) ⟨v0, H, I.tok _, r, q⟩) hs
theorem je_ixK {d : Addr} {tbl : List (Str × Option D)} (hK : C.k.K = X.K) (T : KTab C.k X.w d tbl) (hg : Gl X x) (hm : X.mg x = some (.ref d)) (hsx : PlainIx a) (ha : PE X a (tE C f)) (hdb : (x == ("__debug__" : Str)) = false := by decide) : PE X (.Subscript (.Name x px) a pos) (tE C (un1 (getKt tbl) f)) := by
  obtain ⟨es, n, kd⟩ := T.kd
  have kd' : KDict X.K X.w d es n := by
    rw [← hK]
    exact kd
  refine PE.imp (pe_ix (ix_kt kd') (pe_glob (v := .ref d) hg hm rfl hdb) ha hsx) fun σ H Q ⟨e, s, o⟩ => ⟨e, s, (Out.bind o).imp (fun q hq => ?_) fun _ _ z => z⟩
  intro v H1 x1 s1 i1
  unfold getKt at hq
  split at hq
  · rename_i z e1
    rw [e1] at i1
    cases i1
    split at hq
    · rename_i r hr
      obtain ⟨u, v, h3, h4, h5⟩ := T.get _ (lookS_mem hr)
      exact ⟨z, u, v, rfl, rfl, by rw [← hK]; exact h3, h4, hq _ H1 x1 s1 (h5 _ _)⟩
    · exact hq.elim
  · exact hq.elim

/-! ### a call of the def that a name of the def's own holds -/
def calA (T : Nat → Option (List D → R D)) (i : Nat) (fa : MD (List D)) : MD D := fun e => match e[i]? with
  | some (some (.fn j)) => match T j with
    | some F => (fa e).bind fun p => (noX (F p.1)).at p.2
    | none => .bad
  | _ => .bad
theorem je_callA {lv n : Nat} {T : Nat → Option (List D → R D)} (A : ∀ j F f, T j = some F → C.k.fn j = some f → Held X.prog X.w X.K X.mg X.base lv f (spP C.k n false F)) (hr : Room lv X.A) (hi : i ∉ C.own) (hN : X.N[i]? = some x) (hv : Vis X.env.scope x)
    (hl : (a :: es).length = n) (hlen : ∀ e r, fa e = .ok r → r.1.length = (a :: es).length) (ha : PA X (a :: es) (tA C fa)) (hdb : (x == ("__debug__" : Str)) = false := by decide) (hcd : (x == ("__classdict__" : Str)) = false := by decide)
    (he : starEach (a :: es) X.env = (false, eval a X.env) :: starEach es X.env := by rfl) (hpl : (backTo pos (starEach es X.env)).any (·.1) = false := by rfl) : PE X (.Call (.Name x p) (a :: es) [] pos) (tE C (calA T i fa)) := by
  have h0 : ∀ m : { m : Nat × (List D → R D) × Addr // T m.1 = some m.2.1 ∧ C.k.fn m.1 = some m.2.2 }, PE X (.Call (.Name x p) (a :: es) [] pos) (tCallL i m.1.2.2 (spP C.k n false m.1.2.1) [] (fun _ _ _ => False) (tA C fa)) := fun m => by
    obtain ⟨fd, ps, F, hk, hb⟩ := (A _ _ _ m.2.1 m.2.2).ex
    exact pe_callL F hr hN hv hk hb .nil (fun _ _ _ _ _ _ _ z => z.elim) ha hdb hcd he hpl
  refine PE.imp (PE.exM h0) fun σ H Q ⟨e, s, o⟩ => ?_
  unfold calA at o
  split at o
  · rename_i j hj
    split at o
    · rename_i F hT
      obtain ⟨v, h1, h2⟩ := s.val i _ hi hj
      obtain ⟨f, rfl, h3⟩ := h2
      refine ⟨⟨(j, F, f), hT, h3⟩, h1, e, s, ?_⟩
      have o1 := Out.bind o
      cases e0 : fa e with
      | bad =>
        rw [e0] at o1
        exact o1.elim
      | exc z l =>
        rw [e0] at o1
        exact o1
      | ok q =>
        rw [e0] at o1
        intro vs H1 x1 s1 i1
        have hq := hlen e q e0
        refine ⟨MO C σ, q.1, ?_, by rw [List.append_nil]; exact i1, fun b z => s1.mod z, ?_⟩
        · rw [List.append_nil, i1.length, hq]
          exact hl
        · have o2 : Out (PO1 C σ H Q) (XO C σ H) ((noX (F q.1)).at q.2) := o1
          show PFn C.k false (MO C σ) H1 Q (fun _ _ _ => False) (F q.1)
          cases e1 : F q.1 with
          | bad =>
            rw [e1] at o2
            exact o2.elim
          | exc z l =>
            rw [e1] at o2
            exact o2.elim
          | ok d =>
            rw [e1] at o2
            exact fun v H2 k2 iv _ => o2 v H2 (x1.trans (same_ext k2)) (s1.same k2) iv
    · exact o.elim
  · exact o.elim
end
end Dn

namespace Dn
open PySem PySem.Spec PyProof.Rows L2
/-! ### [e for a in xs for b in ys] -/
def lcS2 (vs vs1 : List Nat) (g : GD) (t : MD Bool) (f1 : MD (List D)) (g1 : GD) (t1 : MD Bool) (el : MD D) : List D → Nat → Lc → R (List D × Lc)
  | [], _, e => .ok ([], e)
  | d :: ds, n, e => (noX (g d e)).bind fun e1 => (noX (t e1)).bind fun p => match p.1 with
    | true => (noX (f1 p.2)).bind fun q => if n + q.1.length ≤ sizeLine then (lcS vs1 g1 t1 el q.1 (wipeL q.2 vs1)).bind fun r => (lcS2 vs vs1 g t f1 g1 t1 el ds (n + r.1.length) (wipeL r.2 vs)).bind fun r2 => .ok (r.1 ++ r2.1, r2.2) else .bad
    | false => lcS2 vs vs1 g t f1 g1 t1 el ds n (wipeL p.2 vs)
def lcM2 (vs vs1 : List Nat) (f : MD (List D)) (g : GD) (t : MD Bool) (f1 : MD (List D)) (g1 : GD) (t1 : MD Bool) (el : MD D) : MD (List D) := fun e => (f e).bind fun p => (lcS2 vs vs1 g t f1 g1 t1 el p.1 0 (wipeL p.2 vs)).bind fun q => .ok (q.1, keepL p.2 q.2 vs)
theorem lcS2_nx {vs vs1 : List Nat} {g : GD} {t : MD Bool} {f1 : MD (List D)} {g1 : GD} {t1 : MD Bool} {el : MD D} : ∀ (ds : List D) (n : Nat) (e : Lc) (x : Ex) (l : Lc), lcS2 vs vs1 g t f1 g1 t1 el ds n e ≠ .exc x l
  | [], n, e, x, l => by simp [lcS2]
  | d :: ds, n, e, x, l => by
    unfold lcS2
    cases e0 : noX (g d e) with
    | bad => simp
    | exc y z => exact absurd e0 (noX_nx _ _ _)
    | ok e1 =>
      rw [R.bind_ok]
      cases e2 : noX (t e1) with
      | bad => simp
      | exc y z => exact absurd e2 (noX_nx _ _ _)
      | ok p =>
        rw [R.bind_ok]
        split
        · cases e3 : noX (f1 p.2) with
          | bad => simp
          | exc y z => exact absurd e3 (noX_nx _ _ _)
          | ok q =>
            rw [R.bind_ok]
            split
            · cases e4 : lcS vs1 g1 t1 el q.1 (wipeL q.2 vs1) with
              | bad => simp
              | exc y z => exact absurd e4 (lcS_nx _ _ _ _)
              | ok r =>
                rw [R.bind_ok]
                cases e5 : lcS2 vs vs1 g t f1 g1 t1 el ds (n + r.1.length) (wipeL r.2 vs) with
                | bad => simp
                | exc y z => exact absurd e5 (lcS2_nx _ _ _ _ _)
                | ok r2 => simp
            · simp
        · exact lcS2_nx _ _ _ _ _
/-- within the block: the new list at q -/
structure LcP (C : Ct) (σ : L2.St) (q : Addr) (H1 : Hp) (e' : Lc) (acc : List D) (τ : L2.St) (H' : Hp) : Prop where
  lst : ∃ accV, H' q = some (.lst accV) ∧ IsDs C.k H' (MO (C.b fun a => C.M a ∨ a = q) τ) acc accV
  ext : ∀ a u, H1 a = some u → (¬ OW C σ a ∨ Fx u) → H' a = some u
  sr : SR (C.b fun a => C.M a ∨ a = q) e' τ H'
  ow : OW (C.b fun a => C.M a ∨ a = q) τ = OW C σ
section
variable {C : Ct} {σ τ τ' : L2.St} {q : Addr} {H1 H H' : Hp} {e e' : Lc} {acc : List D}
theorem LcP.mo (p : LcP C σ q H1 e acc τ H) (ho : OW (C.b fun a => C.M a ∨ a = q) τ' = OW C σ) : MO (C.b fun a => C.M a ∨ a = q) τ' = MO (C.b fun a => C.M a ∨ a = q) τ := MO_of (ho.trans p.ow.symm)
theorem LcP.nq (p : LcP C σ q H1 e acc τ H) (hqp : C.par ≠ some q) : ¬ OW (C.b fun a => C.M a ∨ a = q) τ q := fun ⟨j, hj, z⟩ => by
  rcases p.sr.nm j q hj z with y | y
  · exact y (.inr rfl)
  · exact hqp y
theorem LcP.step (p : LcP C σ q H1 e acc τ H) (hqp : C.par ≠ some q) (x : Ext (OW (C.b fun a => C.M a ∨ a = q) τ) H H') (s : SR (C.b fun a => C.M a ∨ a = q) e' τ H') : LcP C σ q H1 e' acc τ H' := by
  obtain ⟨accV, h1, h2⟩ := p.lst
  refine ⟨⟨accV, x q _ h1 (.inl (p.nq hqp)), IsDs.step x.mo (fun _ z => .inl z) _ _ h2⟩, fun a u z n => x a u (p.ext a u z n) (n.imp (fun n z2 => by
    rw [p.ow] at z2
    exact n z2) id), s, p.ow⟩
theorem LcP.same (p : LcP C σ q H1 e acc τ H) (hqp : C.par ≠ some q) (k : Same H H') : LcP C σ q H1 e acc τ H' := p.step hqp (same_ext k) (p.sr.same k)
theorem LcP.re (p : LcP C σ q H1 e acc τ H) (s : SR (C.b fun a => C.M a ∨ a = q) e' τ' H) (ho : OW (C.b fun a => C.M a ∨ a = q) τ' = OW C σ) : LcP C σ q H1 e' acc τ' H := by
  obtain ⟨accV, h1, h2⟩ := p.lst
  exact ⟨⟨accV, h1, by rw [p.mo ho]; exact h2⟩, p.ext, s, ho⟩
theorem LcP.app (p : LcP C σ q H1 e acc τ H) (hqp : C.par ≠ some q) (h0q : C.H0 q = none) (hq : H1 q = none) {d : D} {y : V} (i : IsD C.k H (MO (C.b fun a => C.M a ∨ a = q) τ) d y) : ∃ accV, H q = some (.lst accV) ∧ accV.length = acc.length ∧ LcP C σ q H1 e (acc ++ [d]) τ (upd H q (.lst (accV ++ [y]))) := by
  obtain ⟨accV, h1, h2⟩ := p.lst
  have mq : MO (C.b fun a => C.M a ∨ a = q) τ q := .inl (.inr rfl)
  have wr : Ext (MO (C.b fun a => C.M a ∨ a = q) τ) H (upd H q (.lst (accV ++ [y]))) := extWr mq h1 fun z => z
  refine ⟨accV, h1, h2.length, ⟨accV ++ [y], upd_same, IsDs.step wr (fun _ z => .inl z) _ _ (h2.app (.cons i .nil))⟩, fun a u z n => ?_, p.sr.wrM (.inr rfl) h1 (fun z => z) h0q hqp, p.ow⟩
  rw [upd_ne (ne_of_none z hq)]
  exact p.ext a u z n
theorem ow_b {M' : Addr → Prop} : OW (C.b M') σ = OW C σ := rfl
variable {vs vs1 : List Nat} {f f1 : MD (List D)} {g g1 : GD} {t t1 : MD Bool} {el : MD D} {Q : VK}
theorem lc_go2 (hv : OkVs C vs) (hv1 : ∀ v ∈ vs1, v ∈ vs) (h : tF C (lcM2 vs vs1 f g t f1 g1 t1 el) σ H Q) :
    tLc2 (tI C f) (fun v σ H Q => ∃ M', tGv (C.b M') vs g v σ H Q) (fun σ H Q => ∃ M', tT (C.b M') t σ H Q) (fun σ H R => ∃ M', tI (C.b M') f1 σ H R) (fun v σ H Q => ∃ M', tGv (C.b M') vs1 g1 v σ H Q) (fun σ H Q => ∃ M', tT (C.b M') t1 σ H Q) (fun σ H Q => ∃ M', tE (C.b M') el σ H Q) vs vs1 σ H Q := by
  obtain ⟨e, s, o⟩ := h
  refine ⟨e, s, (Out.bind o).imp (fun p hp => ?_) fun _ _ z => z⟩
  obtain ⟨ds, e1⟩ := p
  intro J H1 x1 s1 it q hq
  dsimp only at hp s1 it
  have hvb : ∀ M', OkVs (C.b M') vs := fun _ => hv
  have hvb1 : ∀ M', OkVs (C.b M') vs1 := fun _ v hv' => hv v (hv1 v hv')
  have hp2 : Out (fun r => PF C σ H Q (r.1, keepL e1 r.2 vs)) (fun _ _ => False) (lcS2 vs vs1 g t f1 g1 t1 el ds 0 (wipeL e1 vs)) := (Out.any (Out.bind hp) (lcS2_nx _ _ _)).imp (fun r z => z) fun _ _ z => z
  clear hp
  have q0 : C.H0 q = none := by
    cases z : C.H0 q with
    | none => rfl
    | some u =>
      by_cases hpq : C.par = some q
      · obtain ⟨u2, h2⟩ := s1.pm q hpq
        rw [hq] at h2
        cases h2
      · have := s1.ext q u z (.inl hpq)
        rw [hq] at this
        cases this
  have qp : C.par ≠ some q := fun z => by
    obtain ⟨u2, h2⟩ := s1.pm q z
    rw [hq] at h2
    cases h2
  have oww : OW (C.b fun a => C.M a ∨ a = q) (L2.wipe σ vs) = OW C σ := OW_wipe (hvb _)
  have p0 : LcP C σ q H1 (wipeL e1 vs) [] (L2.wipe σ vs) (upd H1 q (.lst [])) := ⟨⟨[], upd_same, rfl⟩, fun a u z _ => by rw [upd_ne (ne_of_none z hq)]; exact z, (s1.into hq).wipe (hvb _), oww⟩
  let Nx : Nat → Hp → Prop := fun i H' => ∃ acc e', LcP C σ q H1 e' acc (L2.wipe σ vs) H' ∧ acc.length ≤ sizeLine ∧ Out (fun r => PF C σ H Q (acc ++ r.1, keepL e1 r.2 vs)) (fun _ _ => False) (lcS2 vs vs1 g t f1 g1 t1 el (ds.drop i) acc.length e')
  refine ⟨fun i m H' => m = ds.length - i ∧ i ≤ ds.length ∧ Nx i H', ⟨ds.length, rfl, Nat.zero_le _, [], wipeL e1 vs, p0, Nat.zero_le _, hp2⟩, ?_⟩
  rintro i m H2 ⟨rfl, hi, acc, e2, p2, hac, o2⟩
  have xx : Ext (OW C σ) H1 H2 := p2.ext
  by_cases hlt : i < ds.length
  · have hd : ds[i]? = some ds[i] := List.getElem?_eq_getElem hlt
    rw [List.drop_eq_getElem_cons hlt] at o2
    refine .inr ⟨it.go H2 i _ xx.mo hd, Nx (i + 1), fun H' h => ⟨_, by omega, rfl, hlt, h⟩, fun x H3 hy => ?_⟩
    obtain ⟨k3, i3⟩ := it.yld H2 (MO (C.b fun a => C.M a ∨ a = q) (L2.wipe σ vs)) i _ x H3 xx.mo (fun a z => by
      rcases z with (z | z) | z
      · exact .inl (.inl z)
      · exact .inr (by rw [z]; exact hq)
      · rw [oww] at z
        exact .inl (.inr z)) hd hy
    have p3 := p2.same qp k3
    refine ⟨_, e2, ds[i], p3.sr, i3, ?_⟩
    have o3 := noX_bind (E' := fun _ _ => False) (show Out _ _ ((noX (g ds[i] e2)).bind _) from o2)
    refine o3.imp (fun e3 o4 => ?_) fun _ _ z => z
    intro σ4 m4 w4 s4
    rw [wipe_sub vs fun _ z => z] at w4
    have ow4 : OW (C.b fun a => C.M a ∨ a = q) σ4 = OW C σ := m4.trans oww
    have p4 : LcP C σ q H1 e3 acc σ4 H3 := p3.re s4 ow4
    refine ⟨w4, _, e3, s4, ?_⟩
    refine (noX_bind o4).imp (fun pt o5 => ?_) fun _ _ z => z
    obtain ⟨b, e5⟩ := pt
    intro H5 x5 s5
    have p5 : LcP C σ q H1 e5 acc σ4 H5 := p4.step qp x5 s5
    cases b with
    | false =>
      refine iteF ⟨acc, wipeL e5 vs, p5.re (by rw [← w4]; exact s5.wipe (hvb _)) oww, hac, o5⟩
    | true =>
      refine iteT ⟨_, e5, s5, ?_⟩
      refine (noX_bind o5).imp (fun qd o6 => ?_) fun _ _ z => z
      obtain ⟨ds1, e6⟩ := qd
      intro J1 H6 x6 s6 it1
      have p6 : LcP C σ q H1 e6 acc σ4 H6 := p5.step qp x6 s6
      have o6' : Out (fun r => PF C σ H Q (acc ++ r.1, keepL e1 r.2 vs)) (fun _ _ => False) (if acc.length + ds1.length ≤ sizeLine then (lcS vs1 g1 t1 el ds1 (wipeL e6 vs1)).bind fun r => (lcS2 vs vs1 g t f1 g1 t1 el (ds.drop (i + 1)) (acc.length + r.1.length) (wipeL r.2 vs)).bind fun r2 => .ok (r.1 ++ r2.1, r2.2) else .bad) := o6
      by_cases hz : acc.length + ds1.length ≤ sizeLine
      · rw [if_pos hz] at o6'
        have ow6 : OW (C.b fun a => C.M a ∨ a = q) (L2.wipe σ4 vs1) = OW C σ := (OW_wipe (hvb1 _)).trans ow4
        have p7 : LcP C σ q H1 (wipeL e6 vs1) acc (L2.wipe σ4 vs1) H6 := p6.re (s6.wipe (hvb1 _)) ow6
        have w46 : L2.wipe (L2.wipe σ4 vs1) vs = L2.wipe σ vs := by
          rw [wipe_sub vs1 hv1, w4]
        refine ⟨fun j k H' => k = ds1.length - j ∧ j ≤ ds1.length ∧ ∃ ac1 e', LcP C σ q H1 e' (acc ++ ac1) (L2.wipe σ4 vs1) H' ∧ ac1.length ≤ j ∧
          Ext (MO (C.b fun a => C.M a ∨ a = q) σ4) H6 H' ∧ Out (fun (r : List D × Lc) => Out (fun (r : List D × Lc) => PF C σ H Q (acc ++ r.1, keepL e1 r.2 vs)) (fun _ _ => False) ((lcS2 vs vs1 g t f1 g1 t1 el (ds.drop (i + 1)) (acc.length + (ac1 ++ r.1).length) (wipeL r.2 vs)).bind fun (r2 : List D × Lc) => .ok ((ac1 ++ r.1) ++ r2.1, r2.2))) (fun _ _ => False) (lcS vs1 g1 t1 el (ds1.drop j) e'),
          ⟨ds1.length, rfl, Nat.zero_le _, [], wipeL e6 vs1, by rw [List.append_nil]; exact p7, Nat.zero_le _, Ext.refl _ _, (Out.any (Out.bind o6') (lcS_nx _ _)).imp (fun r z => z) fun _ _ z => z⟩, ?_⟩
        rintro j k H7 ⟨rfl, hj, ac1, e7, p8, hac1, x7, o7⟩
        by_cases hlt1 : j < ds1.length
        · have hd1 : ds1[j]? = some ds1[j] := List.getElem?_eq_getElem hlt1
          rw [List.drop_eq_getElem_cons hlt1] at o7
          refine .inr ⟨it1.go H7 j _ x7 hd1, fun H' => ∃ ac1 e', LcP C σ q H1 e' (acc ++ ac1) (L2.wipe σ4 vs1) H' ∧ ac1.length ≤ j + 1 ∧
            Ext (MO (C.b fun a => C.M a ∨ a = q) σ4) H6 H' ∧ Out (fun (r : List D × Lc) => Out (fun (r : List D × Lc) => PF C σ H Q (acc ++ r.1, keepL e1 r.2 vs)) (fun _ _ => False) ((lcS2 vs vs1 g t f1 g1 t1 el (ds.drop (i + 1)) (acc.length + (ac1 ++ r.1).length) (wipeL r.2 vs)).bind fun (r2 : List D × Lc) => .ok ((ac1 ++ r.1) ++ r2.1, r2.2))) (fun _ _ => False) (lcS vs1 g1 t1 el (ds1.drop (j + 1)) e'),
            fun H' h => ⟨_, by omega, rfl, hlt1, h⟩, fun x2 H8 hy2 => ?_⟩
          obtain ⟨k8, i8⟩ := it1.yld H7 (MO (C.b fun a => C.M a ∨ a = q) (L2.wipe σ4 vs1)) j _ x2 H8 x7 (fun a z => .inl (by rw [MO_wipe (hvb1 _)] at z; exact z)) hd1 hy2
          have p9 := p8.same qp k8
          refine ⟨_, e7, ds1[j], p9.sr, i8, ?_⟩
          have o8 := noX_bind (E' := fun _ _ => False) (show Out _ _ ((noX (g1 ds1[j] e7)).bind _) from o7)
          refine o8.imp (fun e9 o9 => ?_) fun _ _ z => z
          intro σ9 m9 w9 s9
          rw [wipe_sub vs1 fun _ z => z] at w9
          have ow9 : OW (C.b fun a => C.M a ∨ a = q) σ9 = OW C σ := m9.trans ow6
          have p10 : LcP C σ q H1 e9 (acc ++ ac1) σ9 H8 := p9.re s9 ow9
          refine ⟨w9, _, e9, s9, ?_⟩
          refine (noX_bind o9).imp (fun pt o10 => ?_) fun _ _ z => z
          obtain ⟨b, e10⟩ := pt
          intro H10 x10 s10
          have p11 : LcP C σ q H1 e10 (acc ++ ac1) σ9 H10 := p10.step qp x10 s10
          have ex : ∀ {Ha Hb : Hp}, Ext (OW (C.b fun a => C.M a ∨ a = q) σ9) Ha Hb → Ext (MO (C.b fun a => C.M a ∨ a = q) σ4) Ha Hb := fun {Ha Hb} z => Ext.mo (by
            rw [ow9] at z
            rw [ow4]
            exact z)
          have x10' := (x7.trans (same_ext k8)).trans (ex x10)
          cases b with
          | false => exact iteF ⟨ac1, wipeL e10 vs1, p11.re (by rw [← w9]; exact s10.wipe (hvb1 _)) ow6, Nat.le_succ_of_le hac1, x10', o10⟩
          | true =>
            refine iteT ⟨_, e10, s10, ?_⟩
            refine (noX_bind (E' := fun _ _ => False) o10).imp (fun pq o11 => ?_) fun _ _ z => z.elim
            obtain ⟨d11, e11⟩ := pq
            intro y H11 x11 s11 i11
            have p12 : LcP C σ q H1 e11 (acc ++ ac1) σ9 H11 := p11.step qp x11 s11
            obtain ⟨accV, h1, h2, p13⟩ := p12.app qp q0 hq i11
            refine ⟨accV, h1, by rw [h2, List.length_append]; omega, ac1 ++ [d11], wipeL e11 vs1, ?_, by rw [List.length_append]; exact Nat.succ_le_succ hac1, ?_, ?_⟩
            · rw [← List.append_assoc]
              exact p13.re (by rw [← w9]; exact p13.sr.wipe (hvb1 _)) ow6
            · exact (x10'.trans (ex x11)).trans (extWr (.inl (.inr rfl)) h1 fun z => z)
            · refine (Out.bind o11).imp (fun r hr => ?_) fun _ _ z => z
              rw [List.append_assoc]
              exact hr
        · have ej : j = ds1.length := by omega
          subst ej
          rw [List.drop_length] at o7
          have o8 : Out (fun r => PF C σ H Q (acc ++ r.1, keepL e1 r.2 vs)) (fun _ _ => False) ((lcS2 vs vs1 g t f1 g1 t1 el (ds.drop (i + 1)) (acc.length + (ac1 ++ []).length) (wipeL e7 vs)).bind fun r2 => .ok ((ac1 ++ []) ++ r2.1, r2.2)) := o7
          rw [List.append_nil] at o8
          refine .inl ⟨it1.stop H7 x7, acc ++ ac1, wipeL e7 vs, p8.re (by rw [← w46]; exact p8.sr.wipe (hvb _)) oww, by rw [List.length_append]; omega, ?_⟩
          rw [List.length_append]
          refine (Out.bind o8).imp (fun r hr => ?_) fun _ _ z => z
          rw [List.append_assoc]
          exact hr
      · rw [if_neg hz] at o6'
        exact o6'.elim
  · have ei : i = ds.length := by omega
    subst ei
    rw [List.drop_length] at o2
    have hfin : PF C σ H Q (acc ++ [], keepL e1 e2 vs) := o2
    rw [List.append_nil] at hfin
    obtain ⟨accV, h1, h2⟩ := p2.lst
    obtain ⟨s9, x9⟩ := SR.out hv s1 hq p2.sr h1 p2.ext
    have mq : MO (C.b fun a => C.M a ∨ a = q) (L2.wipe σ vs) q := .inl (.inr rfl)
    have mq2 : ∀ a, MO C σ a → MO (C.b fun a => C.M a ∨ a = q) (L2.wipe σ vs) a := fun a z => by
      rcases z with z | z
      · exact .inl (.inl z)
      · exact .inr (by rw [oww]; exact z)
    have fin := hfin accV (Dn.era H2 q) q (x1.trans x9) s9 (IsDs.era h1 (fun z => z) mq mq2 _ _ h2) era_same
    rw [era_upd h1] at fin
    exact .inl ⟨it.stop H2 xx.mo, fin⟩
end
section
variable {X : Cx} {C : Ct} {elt tg iter tg1 iter1 : Expr} {ifs ifs1 : List Expr} {scope : Scope} {own : List (Str × Nat)} {vs1 : List Nat} {pos spos py : Pos} {y : Str} {i : Nat} {f f1 : MD (List D)} {g g1 : GD} {t t1 : MD Bool} {el : MD D}
theorem PI.exM {a b : Expr} {α : Type} {t : α → TI} (h : ∀ m, PI X a b (t m)) : PI X a b (fun σ H R => ∃ m, t m σ H R) := ⟨fun pins s σ H R I ⟨m, hw⟩ => (h m).run pins s σ H R I hw⟩
theorem jf_lc2 (hc : X.calm = true) (hN : X.N.Nodup) (hv : OkVs C (own.map (·.2))) (hv1 : ∀ v ∈ vs1, v ∈ own.map (·.2)) (hi : PI X tg iter (tI C f)) (ok : BlkOk X.N X.env.scope scope own)
    (hg : ∀ (M' : Addr → Prop) (s : Shared) (H : Hp) (Ca : Addr) (cl : List (Str × Addr)) (fp : List Addr), PG (X.blk s H scope (compEnvC scope cl Ca X.env) fp) tg (tGv (C.b M') (own.map (·.2)) g))
    (ht : ∀ (M' : Addr → Prop) (s : Shared) (H : Hp) (Ca : Addr) (cl : List (Str × Addr)) (fp : List Addr), PTs (X.blk s H scope (compEnvC scope cl Ca X.env) fp) ifs (tT (C.b M') t))
    (hi1 : ∀ (M' : Addr → Prop) (s : Shared) (H : Hp) (Ca : Addr) (cl : List (Str × Addr)) (fp : List Addr), PI (X.blk s H scope (compEnvC scope cl Ca X.env) fp) tg1 iter1 (tI (C.b M') f1))
    (hg1 : ∀ (M' : Addr → Prop) (s : Shared) (H : Hp) (Ca : Addr) (cl : List (Str × Addr)) (fp : List Addr), PG (X.blk s H scope (compEnvC scope cl Ca X.env) fp) tg1 (tGv (C.b M') vs1 g1))
    (ht1 : ∀ (M' : Addr → Prop) (s : Shared) (H : Hp) (Ca : Addr) (cl : List (Str × Addr)) (fp : List Addr), PTs (X.blk s H scope (compEnvC scope cl Ca X.env) fp) ifs1 (tT (C.b M') t1))
    (he : ∀ (M' : Addr → Prop) (s : Shared) (H : Hp) (Ca : Addr) (cl : List (Str × Addr)) (fp : List Addr), PE (X.blk s H scope (compEnvC scope cl Ca X.env) fp) elt (tE (C.b M') el))
    (hs : ∀ x, foldedSetIterable iter X.env x = pure x := by intro _; rfl) (hs1 : ∀ env x, foldedSetIterable iter1 env x = pure x := by intro _ _; rfl) :
    PE X (.ListComp elt [⟨tg, iter, ifs, 0⟩, ⟨tg1, iter1, ifs1, 0⟩] scope pos) (tF C (lcM2 (own.map (·.2)) vs1 f g t f1 g1 t1 el)) :=
  PE.imp (pe_lc2 hc hN hi ok hv1 (fun s H Ca cl fp => PG.exM fun M' => hg M' s H Ca cl fp) (fun s H Ca cl fp => PTs.exM fun M' => ht M' s H Ca cl fp) (fun s H Ca cl fp => PI.exM fun M' => hi1 M' s H Ca cl fp) (fun s H Ca cl fp => PG.exM fun M' => hg1 M' s H Ca cl fp) (fun s H Ca cl fp => PTs.exM fun M' => ht1 M' s H Ca cl fp)
    (fun s H Ca cl fp => PE.exM fun M' => he M' s H Ca cl fp) hs hs1) fun σ H Q h => lc_go2 hv hv1 h
theorem js_setLc2 (hw : (i ∉ C.own ∧ Free C i) ∨ (i ∈ C.own ∧ Free C i)) (hc : X.calm = true) (hN : X.N.Nodup) (hy : X.N[i]? = some y) (hyl : X.env.scope.names.lookup y = some .local)
    (hsw : swapsWith (.ListComp elt [⟨tg, iter, ifs, 0⟩, ⟨tg1, iter1, ifs1, 0⟩] scope pos) (some (.Name y py)) spos.line X.env = pure true) (hv : OkVs C (own.map (·.2))) (hv1 : ∀ v ∈ vs1, v ∈ own.map (·.2)) (hi : PI X tg iter (tI C f)) (ok : BlkOk X.N X.env.scope scope own)
    (hg : ∀ (M' : Addr → Prop) (s : Shared) (H : Hp) (Ca : Addr) (cl : List (Str × Addr)) (fp : List Addr), PG (X.blk s H scope (compEnvC scope cl Ca X.env) fp) tg (tGv (C.b M') (own.map (·.2)) g))
    (ht : ∀ (M' : Addr → Prop) (s : Shared) (H : Hp) (Ca : Addr) (cl : List (Str × Addr)) (fp : List Addr), PTs (X.blk s H scope (compEnvC scope cl Ca X.env) fp) ifs (tT (C.b M') t))
    (hi1 : ∀ (M' : Addr → Prop) (s : Shared) (H : Hp) (Ca : Addr) (cl : List (Str × Addr)) (fp : List Addr), PI (X.blk s H scope (compEnvC scope cl Ca X.env) fp) tg1 iter1 (tI (C.b M') f1))
    (hg1 : ∀ (M' : Addr → Prop) (s : Shared) (H : Hp) (Ca : Addr) (cl : List (Str × Addr)) (fp : List Addr), PG (X.blk s H scope (compEnvC scope cl Ca X.env) fp) tg1 (tGv (C.b M') vs1 g1))
    (ht1 : ∀ (M' : Addr → Prop) (s : Shared) (H : Hp) (Ca : Addr) (cl : List (Str × Addr)) (fp : List Addr), PTs (X.blk s H scope (compEnvC scope cl Ca X.env) fp) ifs1 (tT (C.b M') t1))
    (he : ∀ (M' : Addr → Prop) (s : Shared) (H : Hp) (Ca : Addr) (cl : List (Str × Addr)) (fp : List Addr), PE (X.blk s H scope (compEnvC scope cl Ca X.env) fp) elt (tE (C.b M') el))
    (hs : ∀ x, foldedSetIterable iter X.env x = pure x := by intro _; rfl) (hs1 : ∀ env x, foldedSetIterable iter1 env x = pure x := by intro _ _; rfl) :
    PS X (.Assign [.Name y py] (.ListComp elt [⟨tg, iter, ifs, 0⟩, ⟨tg1, iter1, ifs1, 0⟩] scope pos) spos) (tS C (setO i (lcM2 (own.map (·.2)) vs1 f g t f1 g1 t1 el))) := by
  have h := ps_setLc2 hc hN hy hyl hsw hi ok hv1 (fun s H Ca cl fp => PG.exM fun M' => hg M' s H Ca cl fp) (fun s H Ca cl fp => PTs.exM fun M' => ht M' s H Ca cl fp) (fun s H Ca cl fp => PI.exM fun M' => hi1 M' s H Ca cl fp) (fun s H Ca cl fp => PG.exM fun M' => hg1 M' s H Ca cl fp) (fun s H Ca cl fp => PTs.exM fun M' => ht1 M' s H Ca cl fp)
    (fun s H Ca cl fp => PE.exM fun M' => he M' s H Ca cl fp) hs hs1
  rcases hw with ⟨ho, hf⟩ | ⟨ho, hf⟩
  · exact PS.imp h (set_of ho hf fun σ H Q h => lc_go2 hv hv1 h)
  · exact PS.imp h (setO_of ho hf fun σ H Q h => lc_go2 hv hv1 h)
end
end Dn

namespace Dn
open PySem PySem.Spec PyProof.Rows L2
/-! ### defs by their promises -/
/-- the def at f keeps sp; where it is called with as many values as sp lacks, dv fill up -/
structure HeldD (P : Program) (w : World) (K : PySem.W.Frag) (mg : Str → Option Value) (base : Heap) (lv : Nat) (f : Addr) (sp : Sp) (dv : List V) : Prop where
  ex : ∃ (fd : FuncData) (ps : List Str) (dvs : List Value), FnOk P w K mg base CX0 lv f fd ps sp ∧ PySem.W.keepIn K (.ref f) = true ∧ L2.Binds K fd ps dvs ∧ Vals dv dvs
structure HeldK (P : Program) (w : World) (K : PySem.W.Frag) (mg : Str → Option Value) (base : Heap) (lv : Nat) (f : Addr) (sp : Sp) (n : Nat) (ks : List Str) (gV : List V → List V → List V) : Prop where
  ex : ∃ (fd : FuncData) (ps : List Str) (g : List Value → List Value → List Value), FnOk P w K mg base CX0 lv f fd ps sp ∧ PySem.W.keepIn K (.ref f) = true ∧ KBn K fd ps n ks g gV
section
variable {X : Cx} {C : Ct} {lv lv' n m : Nat} {nw : Bool} {f : Addr} {ks : List Str} {x y : Str} {p pos px : Pos} {a : Expr} {es : List Expr} {kws : List Keyword} {F : List D → R D} {G : D → List D → R (D × D)} {dv : List V} {dd : List D} {fa fk ff : MD (List D)} {i : Nat}
theorem jc_call (A : HeldD X.prog X.w X.K X.mg X.base lv f (spP C.k n nw F) dv) (hr : Room lv' X.A) (hle : lv ≤ lv') (hg : Gl X x) (hm : X.mg x = some (.ref f)) (hc : Cst C.k dd dv) (hl : (a :: es).length + dd.length = n) (hlen : ∀ e r, fa e = .ok r → r.1.length = (a :: es).length) (ha : PA X (a :: es) (tA C fa)) (hdb : (x == ("__debug__" : Str)) = false := by decide)
    (he : starEach (a :: es) X.env = (false, eval a X.env) :: starEach es X.env := by rfl) (hpl : (backTo pos (starEach es X.env)).any (·.1) = false := by rfl) : PE X (.Call (.Name x p) (a :: es) [] pos) (tE C (calM F dd fa)) := by
  obtain ⟨fd, ps, dvs, h1, h2, h3, h4⟩ := A.ex
  exact je_call h1 (hr.mono hle) hg hm h2 h3 h4 hc px0 hl hlen ha hdb he hpl
theorem jc_callF (A : HeldD X.prog X.w X.K X.mg X.base lv f (spP C.k n true F) dv) (hr : Room lv' X.A) (hle : lv ≤ lv') (hg : Gl X x) (hm : X.mg x = some (.ref f)) (hc : Cst C.k dd dv) (hl : (a :: es).length + dd.length = n) (hlen : ∀ e r, fa e = .ok r → r.1.length = (a :: es).length) (ha : PA X (a :: es) (tA C fa)) (hdb : (x == ("__debug__" : Str)) = false := by decide)
    (he : starEach (a :: es) X.env = (false, eval a X.env) :: starEach es X.env := by rfl) (hpl : (backTo pos (starEach es X.env)).any (·.1) = false := by rfl) : PE X (.Call (.Name x p) (a :: es) [] pos) (tF C (calF F dd fa)) := by
  obtain ⟨fd, ps, dvs, h1, h2, h3, h4⟩ := A.ex
  exact je_callF h1 (hr.mono hle) hg hm h2 h3 h4 hc px0 hl hlen ha hdb he hpl
theorem jc_call0 (A : HeldD X.prog X.w X.K X.mg X.base lv f (spP C.k n nw F) dv) (hr : Room lv' X.A) (hle : lv ≤ lv') (hg : Gl X x) (hm : X.mg x = some (.ref f)) (hc : Cst C.k dd dv) (hl : dd.length = n) (hdb : (x == ("__debug__" : Str)) = false := by decide) : PE X (.Call (.Name x p) [] [] pos) (tE C (calM F dd nilA)) := by
  obtain ⟨fd, ps, dvs, h1, h2, h3, h4⟩ := A.ex
  exact je_call0 (E := fun cls d H => ∃ σ, C.W cls d σ H) h1 (hr.mono hle) hg hm h2 h3 h4 hc (fun _ _ _ _ _ _ _ z => z.elim) (fun _ _ σ _ z => ⟨σ, z⟩) hl hdb
theorem jc_callI {dv : List V} (hd0 : dv = []) (A : HeldD X.prog X.w X.K X.mg X.base lv f (spI C.k n nw G) dv) (hr : Room lv' X.A) (hle : lv ≤ lv') (hg : Gl X x) (hm : X.mg x = some (.ref f))
    (hl : es.length + 1 = n) (hlen : ∀ e r, fa e = .ok r → r.1.length = es.length) (ho : i ∈ C.own) (hN : X.N[i]? = some y) (hv : Vis X.env.scope y) (ha : PA X es (tA C fa)) (hdb : (x == ("__debug__" : Str)) = false := by decide)
    (hd : (y == ("__debug__" : Str)) = false := by decide) (hcd : (y == ("__classdict__" : Str)) = false := by decide)
    (he : starEach (.Name y px :: es) X.env = (false, eval (.Name y px) X.env) :: starEach es X.env := by rfl) (hpl : (backTo pos (starEach es X.env)).any (·.1) = false := by rfl) : PE X (.Call (.Name x p) (.Name y px :: es) [] pos) (tE C (calI G i fa)) := by
  subst hd0
  obtain ⟨fd, ps, dvs, h1, h2, h3, h4⟩ := A.ex
  cases h4
  exact je_callI h1 (hr.mono hle) hg hm h2 h3 hl hlen ho hN hv ha hdb hd hcd he hpl
theorem jc_callIF {dv : List V} (hd0 : dv = []) (A : HeldD X.prog X.w X.K X.mg X.base lv f (spI C.k n true G) dv) (hr : Room lv' X.A) (hle : lv ≤ lv') (hg : Gl X x) (hm : X.mg x = some (.ref f))
    (hl : es.length + 1 = n) (hlen : ∀ e r, fa e = .ok r → r.1.length = es.length) (ho : i ∈ C.own) (hN : X.N[i]? = some y) (hv : Vis X.env.scope y) (ha : PA X es (tA C fa)) (hdb : (x == ("__debug__" : Str)) = false := by decide)
    (hd : (y == ("__debug__" : Str)) = false := by decide) (hcd : (y == ("__classdict__" : Str)) = false := by decide)
    (he : starEach (.Name y px :: es) X.env = (false, eval (.Name y px) X.env) :: starEach es X.env := by rfl) (hpl : (backTo pos (starEach es X.env)).any (·.1) = false := by rfl) : PE X (.Call (.Name x p) (.Name y px :: es) [] pos) (tF C (caIF G i fa)) := by
  subst hd0
  obtain ⟨fd, ps, dvs, h1, h2, h3, h4⟩ := A.ex
  cases h4
  exact je_callIF h1 (hr.mono hle) hg hm h2 h3 hl hlen ho hN hv ha hdb hd hcd he hpl
theorem jc_callN1 {dv : List V} (hd0 : dv = []) (A : HeldD X.prog X.w X.K X.mg X.base lv f (spI C.k n nw G) dv) (hr : Room lv' X.A) (hle : lv ≤ lv') (hg : Gl X x) (hm : X.mg x = some (.ref f))
    (hl : es.length + 1 = n) (hlen : ∀ e r, fa e = .ok r → r.1.length = es.length) (h1 : PE X a (tF C ff)) (ha : ∀ M', PA X es (tA (C.b M') fa)) (hdb : (x == ("__debug__" : Str)) = false := by decide)
    (he : starEach (a :: es) X.env = (false, eval a X.env) :: starEach es X.env := by rfl) (hpl : (backTo pos (starEach es X.env)).any (·.1) = false := by rfl) : PE X (.Call (.Name x p) (a :: es) [] pos) (tE C (caN G ff fa)) := by
  subst hd0
  obtain ⟨fd, ps, dvs, g1, g2, g3, g4⟩ := A.ex
  cases g4
  exact je_callN1 g1 (hr.mono hle) hg hm g2 g3 hl hlen h1 ha hdb he hpl
variable {g : List D → List D → List D} {gV : List V → List V → List V}
theorem jc_callN (A : HeldK X.prog X.w X.K X.mg X.base lv f (spP C.k n nw F) m ks gV) (hr : Room lv' X.A) (hle : lv ≤ lv') (hgl : Gl X x) (hm : X.mg x = some (.ref f))
    (hg : ∀ (k : Kx) H M ds vs es zs, IsDs k H M ds vs → IsDs k H M es zs → IsDs k H M (g ds es) (gV vs zs)) (hl : ∀ ds es, ds.length = m → es.length = ks.length → (g ds es).length = n) (hlen : ∀ e r, fa e = .ok r → r.1.length = m) (hlenk : ∀ e r, fk e = .ok r → r.1.length = ks.length)
    (ha : PA X (a :: es) (tA C fa)) (hkw : PK X kws (tA C fk)) (hall : (backToKw pos (keywordEach kws X.env)).all (·.1.isSome) = true := by rfl) (hks : (backToKw pos (keywordEach kws X.env)).filterMap (·.1) = ks := by rfl) (hdb : (x == ("__debug__" : Str)) = false := by decide)
    (he : starEach (a :: es) X.env = (false, eval a X.env) :: starEach es X.env := by rfl)
    (hpl : ((backTo pos (starEach (a :: es) X.env)).any (·.1) || (backToKw pos (keywordEach kws X.env)).any (·.1.isNone)) = false := by rfl) : PE X (.Call (.Name x p) (a :: es) kws pos) (tE C (calK F g fa fk)) := by
  obtain ⟨fd, ps, gu, h1, h2, h3⟩ := A.ex
  exact je_callN (E := fun cls d H => ∃ σ, C.W cls d σ H) h1 (hr.mono hle) hgl hm h2 h3 (fun _ _ _ _ _ _ _ z => z.elim) (fun _ _ σ _ z => ⟨σ, z⟩) hg hl hlen hlenk ha hkw hall hks hdb he hpl
theorem jc_callK0 (A : HeldK X.prog X.w X.K X.mg X.base lv f (spP C.k n nw F) 0 ks gV) (hr : Room lv' X.A) (hle : lv ≤ lv') (hgl : Gl X x) (hm : X.mg x = some (.ref f))
    (hg : ∀ (k : Kx) H M ds vs es zs, IsDs k H M ds vs → IsDs k H M es zs → IsDs k H M (g ds es) (gV vs zs)) (hl : ∀ ds es, ds.length = 0 → es.length = ks.length → (g ds es).length = n) (hlenk : ∀ e r, fk e = .ok r → r.1.length = ks.length)
    (hkw : PK X kws (tA C fk)) (hall : (backToKw pos (keywordEach kws X.env)).all (·.1.isSome) = true := by rfl) (hks : (backToKw pos (keywordEach kws X.env)).filterMap (·.1) = ks := by rfl) (hdb : (x == ("__debug__" : Str)) = false := by decide)
    (hpl : ((backTo pos (starEach [] X.env)).any (·.1) || (backToKw pos (keywordEach kws X.env)).any (·.1.isNone)) = false := by rfl) : PE X (.Call (.Name x p) [] kws pos) (tE C (calK F g nilA fk)) := by
  obtain ⟨fd, ps, gu, h1, h2, h3⟩ := A.ex
  exact je_callK0 h1 (hr.mono hle) hgl hm h2 h3 px0 hg hl hlenk hkw hall hks hdb hpl
end
section
variable {K : PySem.W.Frag} {x qual : Str} {params : Arguments} {body : List Stmt} {scope : Scope} {dvs : List V} {kws : List (Str × V)} {f : Addr} {fd : FuncData} {ps : List Str}
theorem kbindsNo (F : FunD K x qual params body scope [] kws f fd) (n : Nat) (ks : List Str) (g : {α : Type} → List α → List α → List α)
    (hrel : ∀ {vs zs : List V} {us ws : List Value}, Vals vs us → Vals zs ws → Vals (g vs zs) (g us ws))
    (h : ∀ (kV doc pm : Value) (an : Option Addr) (cdv ct : Value) (us ws : List Value), us.length = n → ws.length = ks.length → bindArgs (PySem.W.fnOf x qual params body scope .none kV doc pm an cdv ct) ⟨us, ks.zip ws⟩ = pure (ps.zip (g us ws))) : KBn K fd ps n ks (fun us ws => g us ws) (fun vs zs => g vs zs) := by
  obtain ⟨oc, od, dV, kV, doc, pm, an, cdv, ct, osl, rfl, lk, hcd, hD, hK⟩ := F.ex
  rcases hD with ⟨_, rfl⟩ | ⟨e, _⟩
  · exact ⟨fun s us ws _ l1 l2 => .of_eq (h kV doc pm an cdv ct us ws l1 l2), fun r1 r2 => hrel r1 r2⟩
  · exact absurd rfl e
theorem Vals.rev {vs : List V} {us : List Value} (h : Vals vs us) : Vals vs.reverse us.reverse := h.reverse
theorem free_P {C : Ct} {i : Nat} (h : C.par = none) : Free C i := .inl h
theorem free_I {C : Ct} {i : Nat} (h0 : 0 ∈ C.own) (h : i ≠ 0) : Free C i := .inr ⟨h0, h⟩
theorem okv_P {C : Ct} {vs : List Nat} (h : C.par = none) (h2 : ∀ v ∈ vs, v ∉ C.own) : OkVs C vs := fun v hv => ⟨h2 v hv, .inl h⟩
theorem okv_I {C : Ct} {vs : List Nat} (h : 0 ∈ C.own) (h2 : ∀ v ∈ vs, v ∉ C.own ∧ v ≠ 0) : OkVs C vs := fun v hv => ⟨(h2 v hv).1, .inr ⟨h, (h2 v hv).2⟩⟩
/-- the data of the module: the script's def and the table's defs by number -/
def kx (K : PySem.W.Frag) (fn : Nat → Option Addr) : Kx := ⟨K, fn, fun _ _ => False⟩
/-- a def of plain data keeps its promise -/
theorem fn_P {P : Program} {w : World} {mg : Str → Option Value} {base : Heap} {lv n NN : Nat} {nw : Bool} {own : List Nat} {fb : MS} {k : Kx} {N : List Str} (F : FunD K x qual params body scope dvs kws f fd) (S : FnScope N ps scope) (hps : ps.length = n) (hNN : N.length = NN) (ho : ∀ i ∈ own, n ≤ i)
    (h : ∀ (cdv : Value) (A : Around) (outer : List Env) (s : Shared) (H : Hp) (E : XK) (M : Addr → Prop) (H0 : Hp) (W : WX), Room lv (A.deeper (envOfC qual scope s.heap.objs.size f cdv)) → PSs (cxOf CX0 P w K mg base N qual scope f cdv A outer s H E).nox body (tS ⟨k, own, none, M, H0, W, nw⟩ fb)) : FnOk P w K mg base CX0 (lv + 1) f fd ps (spP k n nw (runB NN nw fb)) := by
  refine F.ok S (fun vs H Q E h => ?_) fun cdv A outer s H vs Q E hr hsp => ?_
  · obtain ⟨M, ds, h1, _⟩ := h
    rw [h1, hps]
  · obtain ⟨M, ds, h1, h2, h3, h4⟩ := hsp
    exact ⟨_, PSs.nox (h cdv A outer s H E M H (fun cls d _ H' => E cls d H') hr), body_P hNN (by rw [h2.length]) (fun i hi => by rw [← h2.length, h1]; exact ho i hi) h2 h3 h4⟩
/-- one that changes its first argument -/
theorem fn_I {P : Program} {w : World} {mg : Str → Option Value} {base : Heap} {lv n NN : Nat} {nw : Bool} {own : List Nat} {fb : MS} {k : Kx} {N : List Str} (F : FunD K x qual params body scope dvs kws f fd) (S : FnScope N ps scope) (hps : ps.length = n) (hNN : N.length = NN) (h1N : 1 ≤ NN) (h0 : 0 ∈ own) (ho : ∀ i ∈ own, i = 0 ∨ n ≤ i)
    (h : ∀ (cdv : Value) (A : Around) (outer : List Env) (s : Shared) (H : Hp) (E : XK) (M : Addr → Prop) (H0 : Hp) (a : Addr), Room lv (A.deeper (envOfC qual scope s.heap.objs.size f cdv)) → PSs (cxOf CX0 P w K mg base N qual scope f cdv A outer s H E).nox body (tS ⟨k, own, some a, M, H0, fun _ _ _ _ => False, nw⟩ fb)) : FnOk P w K mg base CX0 (lv + 1) f fd ps (spI k n nw (runI NN nw fb)) := by
  refine F.ok S (fun vs H Q E h => ?_) fun cdv A outer s H vs Q E hr hsp => ?_
  · obtain ⟨M, a, d0, ds, vr, _, h1, _⟩ := h
    rw [h1, hps]
  · obtain ⟨M, a, d0, ds, vr, rfl, h1, hM, od, h2, h3, h4⟩ := hsp
    refine ⟨_, PSs.nox (h cdv A outer s H E M H a hr), body_I (E := E) hNN h1N (by rw [h2.length]) (fun i hi => ?_) h0 hM od h2 h3 h4⟩
    rw [← h2.length]
    rw [List.length_cons] at h1
    rw [h1]
    exact ho i hi
theorem held_K {P : Program} {w : World} {mg : Str → Option Value} {base : Heap} {lv n : Nat} {sp : Sp} {ks : List Str} {g : List Value → List Value → List Value} {gV : List V → List V → List V} (F : FunD K x qual params body scope dvs kws f fd) (A : FnOk P w K mg base CX0 lv f fd ps sp) (B : KBn K fd ps n ks g gV) : HeldK P w K mg base lv f sp n ks gV := ⟨fd, ps, g, A, F.kp, B⟩
theorem held_D {P : Program} {w : World} {mg : Str → Option Value} {base : Heap} {lv : Nat} {sp : Sp} {dv : List V} (F : FunD K x qual params body scope dvs kws f fd) (A : FnOk P w K mg base CX0 lv f fd ps sp) (B : ∃ ds, Vals dv ds ∧ L2.Binds K fd ps ds) : HeldD P w K mg base lv f sp dv := by
  obtain ⟨ds, h1, h2⟩ := B
  exact ⟨fd, ps, ds, A, F.kp, h2, h1⟩
theorem held_N {P : Program} {w : World} {mg : Str → Option Value} {base : Heap} {lv : Nat} {sp : Sp} (F : FunD K x qual params body scope dvs kws f fd) (A : FnOk P w K mg base CX0 lv f fd ps sp) (B : L2.Binds K fd ps []) : HeldD P w K mg base lv f sp [] := ⟨fd, ps, [], A, F.kp, B, .nil⟩
end
end Dn

namespace Dn
open PySem PySem.Spec PyProof.Rows L2
theorem nmG_nx (i : Nat) (d : D) (e : Lc) (y : Ex) (l : Lc) : nmG i d e ≠ .exc y l := by simp [nmG]
theorem nilG_nx (ds : List D) (e : Lc) (y : Ex) (l : Lc) : nilG ds e ≠ .exc y l := by
  cases ds <;> simp [nilG]
theorem consG_nx {g : GD} {h : List D → Lc → R Lc} (h1 : ∀ d e y l, g d e ≠ .exc y l) (h2 : ∀ ds e y l, h ds e ≠ .exc y l) (ds : List D) (e : Lc) (y : Ex) (l : Lc) : consG g h ds e ≠ .exc y l := by
  cases ds with
  | nil => simp [consG]
  | cons d r =>
    unfold consG
    dsimp only
    cases e0 : g d e with
    | ok e1 => exact h2 _ _ _ _
    | exc z k => exact absurd e0 (h1 _ _ _ _)
    | bad => simp
theorem tupG_nx {n : Nat} {h : List D → Lc → R Lc} (h2 : ∀ ds e y l, h ds e ≠ .exc y l) (d : D) (e : Lc) (y : Ex) (l : Lc) : tupG n h d e ≠ .exc y l := by
  unfold tupG
  split
  · split
    · exact h2 _ _ _ _
    · simp
  · split
    · exact h2 _ _ _ _
    · simp
  · simp
theorem subG_nx {i : Nat} {f : MD D} (hf : ∀ e y l, f e ≠ .exc y l) (d : D) (e : Lc) (y : Ex) (l : Lc) : isLG i (subG i f) d e ≠ .exc y l := by
  unfold isLG
  split
  · unfold subG
    cases e0 : f e with
    | ok p =>
      rw [R.bind_ok]
      repeat (first | (split) | simp)
    | exc z k => exact absurd e0 (hf _ _ _)
    | bad => simp
  · simp
theorem cst_nx (d : D) (e : Lc) (y : Ex) (l : Lc) : cst d e ≠ .exc y l := by simp [cst]
theorem vr_nx (i : Nat) (e : Lc) (y : Ex) (l : Lc) : vr i e ≠ .exc y l := by
  unfold vr
  split <;> simp
theorem Room65 {k : Nat} {A : Around} (r : Room k A) : A.units + 65 < cLine := by
  have := r.un
  omega
section
variable {X : Cx} {C : Ct}
theorem je_gi {x : Str} {i : Int} {pos : Pos} (hm : ∃ t, X.mg x = some (.int i t)) (hg : Gl X x) (hd : (x == ("__debug__" : Str)) = false := by decide) : PE X (.Name x pos) (tE C (cst (.int i))) := by
  obtain ⟨t, h⟩ := hm
  exact je_gint hg h ⟨t, rfl⟩ hd
end
theorem gI {K : PySem.W.Frag} {h : Heap} {mg : Str → Option Value} {x : Str} {i : Int} (X : K.In h) (G : h.Ns mainGlobals mg) (c : (He.Fa.int x i).ok K = true) : ∃ t, mg x = some (.int i t) := He.int_ok X G c
theorem isiInt : IsiOk "int" isInt := isi_mk (fun b h => by cases h; decide +kernel) (fun c b h => by cases h; decide +kernel) (fun c b h => by cases h; decide +kernel) (fun c b h => by cases h; decide +kernel) (fun c b h => by cases h; decide +kernel) (fun c b h => by cases h; decide +kernel) (fun c b h => by cases h; decide +kernel) (fun c c' b h => by cases h; decide +kernel) (fun c => rfl)
theorem isiBool : IsiOk "bool" isBool := isi_mk (fun b h => by cases h; decide +kernel) (fun c b h => by cases h; decide +kernel) (fun c b h => by cases h; decide +kernel) (fun c b h => by cases h; decide +kernel) (fun c b h => by cases h; decide +kernel) (fun c b h => by cases h; decide +kernel) (fun c b h => by cases h; decide +kernel) (fun c c' b h => by cases h; decide +kernel) (fun c => rfl)
theorem isiTup : IsiOk "tuple" isTup := isi_mk (fun b h => by cases h; decide +kernel) (fun c b h => by cases h; decide +kernel) (fun c b h => by cases h; decide +kernel) (fun c b h => by cases h; decide +kernel) (fun c b h => by cases h; decide +kernel) (fun c b h => by cases h; decide +kernel) (fun c b h => by cases h; decide +kernel) (fun c c' b h => by cases h; decide +kernel) (fun c => rfl)
theorem isiStr : IsiOk "str" isStr := isi_mk (fun b h => by cases h; decide +kernel) (fun c b h => by cases h; decide +kernel) (fun c b h => by cases h; decide +kernel) (fun c b h => by cases h; decide +kernel) (fun c b h => by cases h; decide +kernel) (fun c b h => by cases h; decide +kernel) (fun c b h => by cases h; decide +kernel) (fun c c' b h => by cases h; decide +kernel) (fun c => rfl)
theorem isiLst : IsiOk "list" isLst := isi_mk (fun b h => by cases h; decide +kernel) (fun c b h => by cases h; decide +kernel) (fun c b h => by cases h; decide +kernel) (fun c b h => by cases h; decide +kernel) (fun c b h => by cases h; decide +kernel) (fun c b h => by cases h; decide +kernel) (fun c b h => by cases h; decide +kernel) (fun c c' b h => by cases h; decide +kernel) (fun c => rfl)
def negD : D → R D
  | .int i => .ok (.int (-i))
  | _ => .bad
theorem negD_nx (a : D) (y : Ex) (l : Lc) : negD a ≠ .exc y l := by
  unfold negD
  split <;> simp
theorem je_neg {X : Cx} {C : Ct} {a : Expr} {f : MD D} {pos : Pos} (ha : PE X a (tE C f)) : PE X (.UnaryOp .USub a pos) (tE C (un1 negD f)) := by
  refine PE.imp (pe_un un_neg ha) (tE_un (r := rU fun i => .int (-i)) (fun σ e H x d1 Q s i1 q => ?_) negD_nx)
  unfold negD at q
  split at q
  · cases i1
    exact ⟨_, rfl, q.val rfl⟩
  · exact q.elim
section
variable {X : Cx} {C : Ct} {a : Expr} {f : MD D} {x : Str} {px pos : Pos} {d : Addr} {tbl : List (Str × Option D)}
theorem tE_inK {neg : Bool} (hK : C.k.K = X.K) (T : KTab C.k X.w d tbl) (σ : L2.St) (H : Hp) (Q : VK) (h : tE C (un1 (inKt neg tbl) f) σ H Q) :
    tOp (fun x y H Q => ∃ (z : Str) (r : Option Value), x = .str z ∧ y = .ref d ∧ PySem.W.nsIn X.K d z = some r ∧ Q (.bl (if neg then !r.isSome else r.isSome)) H) (tE C f) (tC (.ref d)) σ H Q := by
  obtain ⟨e, s, o⟩ := h
  refine ⟨e, s, (Out.bind o).imp (fun q hq => ?_) fun _ _ z => z⟩
  intro v H1 x1 s1 i1
  unfold inKt at hq
  split at hq
  · rename_i z e1
    rw [e1] at i1
    cases i1
    split at hq
    · rename_i r hr
      have h2 := T.get _ (lookS_mem hr)
      cases r with
      | none => exact ⟨z, none, rfl, rfl, by rw [← hK]; exact h2, hq _ H1 x1 s1 rfl⟩
      | some r =>
        obtain ⟨u, v, h3, _⟩ := h2
        exact ⟨z, some u, rfl, rfl, by rw [← hK]; exact h3, hq _ H1 x1 s1 rfl⟩
    · exact hq.elim
  · exact hq.elim
theorem jt_notInK (hK : C.k.K = X.K) (T : KTab C.k X.w d tbl) (hg : Gl X x) (hm : X.mg x = some (.ref d)) (ha : PE X a (tE C f)) (hdb : (x == ("__debug__" : Str)) = false := by decide) (hmk : behindInMarks .NotIn (.Name x px) = false := by rfl) : PT X (.Compare a [.NotIn] [.Name x px] pos) (tT C (tst (un1 (inKt true tbl) f))) := by
  obtain ⟨es, n, kd⟩ := T.kd
  have kd' : KDict X.K X.w d es n := by
    rw [← hK]
    exact kd
  exact PT.imp (pt_cmpR (op_notIn_kd kd') ha (pe_glob (v := .ref d) hg hm rfl hdb) hmk) fun σ H Q h => tE_inK (neg := true) hK T σ H _ (tT_test σ H Q h)
theorem jt_inK (hK : C.k.K = X.K) (T : KTab C.k X.w d tbl) (hg : Gl X x) (hm : X.mg x = some (.ref d)) (ha : PE X a (tE C f)) (hdb : (x == ("__debug__" : Str)) = false := by decide) (hmk : behindInMarks .In (.Name x px) = false := by rfl) : PT X (.Compare a [.In] [.Name x px] pos) (tT C (tst (un1 (inKt false tbl) f))) := by
  obtain ⟨es, n, kd⟩ := T.kd
  have kd' : KDict X.K X.w d es n := by
    rw [← hK]
    exact kd
  exact PT.imp (pt_cmpR (op_in_kd kd') ha (pe_glob (v := .ref d) hg hm rfl hdb) hmk) fun σ H Q h => tE_inK (neg := false) hK T σ H _ (tT_test σ H Q h)
end
/-! ### a table of the module, as the head tells it -/
def ktOne (K : PySem.W.Frag) (fnA : Nat → Option Addr) (d : Addr) (q : Str × Option D) : Bool := match q.2 with
  | none => He.eqO (PySem.W.nsIn K d q.1) (some none)
  | some (.tup [.int n, .fn j]) => match PySem.W.nsIn K d q.1 with
    | some (some (.ref t)) => match K.lookup t with
      | some ⟨.type c, none, .seq its _, _⟩ => match its.toList with
        | [.int m _, .ref f] => decide (c = "tuple") && (decide (m = n) && decide (fnA j = some f))
        | _ => false
      | _ => false
    | _ => false
  | _ => false
theorem ktOne_ok {K : PySem.W.Frag} {fnA : Nat → Option Addr} {d : Addr} {q : Str × Option D} (h : ktOne K fnA d q = true) : match q.2 with
    | none => PySem.W.nsIn K d q.1 = some none
    | some r => ∃ u v, PySem.W.nsIn K d q.1 = some (some u) ∧ RelV v u ∧ ∀ H M, IsD (kx K fnA) H M r v := by
  obtain ⟨z, r⟩ := q
  unfold ktOne at h
  cases r with
  | none => exact He.eqO_ok h
  | some r =>
    dsimp only at h ⊢
    split at h
    · rename_i hh
      cases hh
    · rename_i n j hh
      cases hh
      split at h
      · rename_i t e1
        split at h
        · rename_i c its nn sl e2
          split at h
          · rename_i m tk f e3
            obtain ⟨h1, h2⟩ := He.ba h
            obtain ⟨h3, h4⟩ := He.ba h2
            have h1 := of_decide_eq_true h1
            have h3 := of_decide_eq_true h3
            have h4 := of_decide_eq_true h4
            subst h1 h3
            refine ⟨.ref t, .ref t, e1, rfl, fun H M => ⟨t, [.int m, .ref f], rfl, .inr ⟨_, its, nn, e2, rfl, rfl, ?_, ?_⟩, _, _, rfl, rfl, _, _, rfl, ⟨f, rfl, h4⟩, rfl⟩⟩
            · have : its.size = 2 := by
                rw [← Array.length_toList, e3]
                rfl
              rw [this]
              decide
            · rw [e3]
              exact .cons ⟨tk, rfl⟩ (.cons rfl .nil)
          · cases h
        · cases h
      · cases h
    · cases h
theorem kt_of {K : PySem.W.Frag} {w : World} {fnA : Nat → Option Addr} {d : Addr} {tbl : List (Str × Option D)} (hd : ∃ es n, KDict K w d es n) (h : tbl.all (ktOne K fnA d) = true) : KTab (kx K fnA) w d tbl := ⟨hd, fun q hq => ktOne_ok (List.all_eq_true.mp h q hq)⟩
/-! ### the law's end -/
theorem scr_in {K : PySem.W.Frag} {fn : Nat → Option Addr} {M : Addr → Prop} {H : Hp} {a : Addr} {ns : List Int} (hO : Only H) (hS : SqL K H a (ns.map V.int)) : IsD (kx K fn) H M (.scr ns) (.ref a) := by
  refine ⟨a, rfl, fun H' hf => ?_⟩
  rcases hS with (h | ⟨o, h⟩) | h
  · rcases hO a with z | ⟨o, xs, z⟩
    · rw [h] at z
      cases z
    · rw [h] at z
      cases z
  · exact .inl (.inr ⟨o, hf _ _ h⟩)
  · exact .inr h
theorem law_sp {K : PySem.W.Frag} {fn : Nat → Option Addr} {F : List D → R D} {H : Hp} {a : Addr} {ns : List Int} (hO : Only H) (hS : SqL K H a (ns.map V.int)) (hF : F [.scr ns] = .ok (.bl true)) : spP (kx K fn) 1 false F [.ref a] H (fun v _ => v = .bl true) fun _ _ _ => False := by
  refine ⟨fun _ => False, [.scr ns], rfl, .cons (scr_in hO hS) .nil, fun _ z => z.elim, ?_⟩
  rw [hF]
  exact fun v H' _ iv _ => iv
end Dn

namespace Dn
open PySem PySem.Spec PyProof.Rows L2
/-! ### the readings as a simp set -/
@[simp] theorem bind_ite {α β : Type} (c : Prop) [Decidable c] (a b : R α) (k : α → R β) : (if c then a else b).bind k = if c then a.bind k else b.bind k := by
  by_cases h : c <;> simp [h]
@[simp] theorem at_ite {α : Type} (c : Prop) [Decidable c] (a b : R α) (e : Lc) : (if c then a else b).at e = if c then a.at e else b.at e := by
  by_cases h : c <;> simp [h]
def seqK (r : R (Fl × Lc)) (g : MS) : R (Fl × Lc) := r.bind fun p => match p.1 with
  | .nx => g p.2
  | fl => .ok (fl, p.2)
@[simp] theorem s_seq (f g : MS) (e : Lc) : seqS f g e = seqK (f e) g := rfl
@[simp] theorem seqK_nx (e : Lc) (g : MS) : seqK (.ok (.nx, e)) g = g e := rfl
@[simp] theorem seqK_rt (e : Lc) (d : D) (g : MS) : seqK (.ok (.rt d, e)) g = .ok (.rt d, e) := rfl
@[simp] theorem seqK_bad (g : MS) : seqK .bad g = .bad := rfl
@[simp] theorem seqK_ite (c : Prop) [Decidable c] (a b : R (Fl × Lc)) (g : MS) : seqK (if c then a else b) g = if c then seqK a g else seqK b g := by
  by_cases h : c <;> simp [h]
@[simp] theorem s_nx (e : Lc) : nxS e = .ok (.nx, e) := rfl
@[simp] theorem s_ret (f : MD D) (e : Lc) : retS f e = (f e).bind fun p => .ok (.rt p.1, p.2) := rfl
@[simp] theorem s_if (t : MD Bool) (f g : MS) (e : Lc) : ifS t f g e = (t e).bind fun p => if p.1 = true then f p.2 else g p.2 := by
  unfold ifS
  congr 1
  funext p
  cases p.1 <;> rfl
@[simp] theorem s_ifV (t : MD Bool) (f g : MD D) (e : Lc) : ifV t f g e = (t e).bind fun p => if p.1 = true then f p.2 else g p.2 := by
  unfold ifV
  congr 1
  funext p
  cases p.1 <;> rfl
@[simp] theorem s_andT (f g : MD Bool) (e : Lc) : andT f g e = (f e).bind fun p => if p.1 = true then g p.2 else .ok (false, p.2) := by
  unfold andT
  congr 1
  funext p
  cases p.1 <;> rfl
@[simp] theorem s_orT (f g : MD Bool) (e : Lc) : orT f g e = (f e).bind fun p => if p.1 = true then .ok (true, p.2) else g p.2 := by
  unfold orT
  congr 1
  funext p
  cases p.1 <;> rfl
@[simp] theorem s_notT (f : MD Bool) (e : Lc) : notT f e = (f e).bind fun p => .ok (!p.1, p.2) := rfl
def andK (d : D) (r s : R (D × Lc)) : R (D × Lc) := match d with
  | .bl true => r
  | .bl false => s
  | _ => .bad
@[simp] theorem andK_bl (b : Bool) (r s : R (D × Lc)) : andK (.bl b) r s = if b = true then r else s := by
  cases b <;> rfl
@[simp] theorem s_andV (f g : MD D) (e : Lc) : andV f g e = (f e).bind fun p => andK p.1 (g p.2) (.ok (.bl false, p.2)) := by
  unfold andV
  congr 1
@[simp] theorem s_orV (f g : MD D) (e : Lc) : orV f g e = (f e).bind fun p => andK p.1 (.ok (.bl true, p.2)) (g p.2) := by
  unfold orV
  congr 1
@[simp] theorem s_notV (f : MD D) (e : Lc) : notV f e = (f e).bind fun p => match p.1 with
  | .bl b => .ok (.bl (!b), p.2)
  | _ => .bad := rfl
@[simp] theorem s_bin2 (op : D → D → R D) (f g : MD D) (e : Lc) : bin2 op f g e = (f e).bind fun p => (g p.2).bind fun q => (op p.1 q.1).at q.2 := rfl
@[simp] theorem s_un1 (op : D → R D) (f : MD D) (e : Lc) : un1 op f e = (f e).bind fun p => (op p.1).at p.2 := rfl
@[simp] theorem s_cst (d : D) (e : Lc) : cst d e = .ok (d, e) := rfl
@[simp] theorem s_tst (f : MD D) (e : Lc) : tst f e = (f e).bind fun p => match p.1 with
  | .bl b => .ok (b, p.2)
  | _ => .bad := rfl
@[simp] theorem s_tru (f : MD D) (e : Lc) : tru f e = (f e).bind fun p => (truR p.1).at p.2 := rfl
@[simp] theorem s_nilA (e : Lc) : nilA e = .ok ([], e) := rfl
@[simp] theorem s_consA (f : MD D) (g : MD (List D)) (e : Lc) : consA f g e = (f e).bind fun p => (g p.2).bind fun q => .ok (p.1 :: q.1, q.2) := rfl
@[simp] theorem s_callD (F : List D → R D) (fa : MD (List D)) (e : Lc) : callD F fa e = (fa e).bind fun p => (F p.1).at p.2 := rfl
@[simp] theorem s_calM (F : List D → R D) (dd : List D) (fa : MD (List D)) (e : Lc) : calM F dd fa e = (fa e).bind fun p => (F (p.1 ++ dd)).at p.2 := rfl
@[simp] theorem s_asL (f : MD (List D)) (e : Lc) : asL f e = (f e).bind fun p => .ok (.lst p.1, p.2) := rfl
@[simp] theorem s_seqM (f : MD D) (e : Lc) : seqM f e = (f e).bind fun q => match q.1 with
  | .lst ds => .ok (ds, q.2)
  | .tup ds => .ok (ds, q.2)
  | _ => .bad := rfl
@[simp] theorem s_setS (i : Nat) (f : MD D) (e : Lc) : setS i f e = (f e).bind fun p => .ok (.nx, p.2.set i (some p.1)) := rfl
@[simp] theorem s_setO (i : Nat) (f : MD (List D)) (e : Lc) : setO i f e = (f e).bind fun p => .ok (.nx, p.2.set i (some (.lst p.1))) := rfl
@[simp] theorem s_asg (f : MD D) (g : GD) (e : Lc) : asgS f g e = (f e).bind fun p => (g p.1 p.2).bind fun e' => .ok (.nx, e') := rfl
@[simp] theorem s_nmG (i : Nat) (d : D) (e : Lc) : nmG i d e = .ok (e.set i (some d)) := rfl
@[simp] theorem s_tupE (g : MD (List D)) (e : Lc) : tupE g e = (g e).bind fun q => (szR q.1 (.tup q.1)).at q.2 := rfl
@[simp] theorem s_lstE (g : MD (List D)) (e : Lc) : lstE g e = (g e).bind fun q => (szR q.1 (.lst q.1)).at q.2 := rfl
@[simp] theorem s_parS (i j : Nat) (f g : MD D) (e : Lc) : parS i j f g e = (f e).bind fun p => (g p.2).bind fun q => .ok (.nx, (q.2.set i (some p.1)).set j (some q.1)) := rfl
@[simp] theorem s_forM (f : MD (List D)) (g : GD) (b : MS) (e : Lc) : forM f g b e = (f e).bind fun p => forS g b p.1 p.2 := rfl
@[simp] theorem s_vr0 (a : Option D) (e : Lc) (d : D) : vr 0 (some d :: e) = .ok (d, some d :: e) := rfl
theorem vr_get (i : Nat) (e : Lc) (d : D) (h : e[i]? = some (some d)) : vr i e = .ok (d, e) := by
  unfold vr
  rw [h]
def outB (nw : Bool) : R (Fl × Lc) → R D
  | .ok (.rt d, _) => .ok d
  | .ok (.nx, _) => if nw then .bad else .ok .non
  | .exc x _ => .exc x []
  | _ => .bad
theorem s_runB (N : Nat) (nw : Bool) (fb : MS) (ds : List D) : runB N nw fb ds = outB nw (fb (startL N ds)) := by
  unfold runB outB
  cases fb (startL N ds) with
  | ok p =>
    obtain ⟨fl, e⟩ := p
    cases fl <;> rfl
  | _ => rfl
@[simp] theorem outB_rt (nw : Bool) (d : D) (e : Lc) : outB nw (.ok (.rt d, e)) = .ok d := rfl
@[simp] theorem outB_bad (nw : Bool) : outB nw .bad = .bad := rfl
@[simp] theorem outB_ite (nw : Bool) (c : Prop) [Decidable c] (a b : R (Fl × Lc)) : outB nw (if c then a else b) = if c then outB nw a else outB nw b := by
  by_cases h : c <;> simp [h]
/-! ### plain reckoning with the readings -/
section
variable {i n : Nat} {e e1 : Lc} {d : D} {f g : MD D} {t u : MD Bool} {ss tt : MS}
theorem ev_vr (h : e[i]? = some (some d)) : vr i e = .ok (d, e) := by
  unfold vr
  rw [h]
theorem ev_cst : cst d e = .ok (d, e) := rfl
/-- the comprehension over one name, no tests, its element the same whatever stood there -/
theorem lcS_map {el : MD D} {hh : D → D} : ∀ (ds : List D), e[i]? = some none → (∀ d ∈ ds, el (e.set i (some d)) = .ok (hh d, e.set i (some d))) → lcS [i] (nmG i) yesT el ds e = .ok (ds.map hh, e)
  | [], _, _ => rfl
  | d :: ds, h0, h => by
    have h1 := h d (List.mem_cons_self ..)
    have hw : wipeL (e.set i (some d)) [i] = e := by
      show (e.set i (some d)).set i none = e
      rw [List.set_set]
      apply List.ext_getElem?
      intro j
      by_cases hj : i = j
      · subst hj
        rw [List.getElem?_set_self (by rw [List.getElem?_eq_some_iff] at h0; exact h0.1), h0]
      · rw [List.getElem?_set_ne hj]
    unfold lcS
    simp only [nmG, noX, R.bind_ok, yesT]
    rw [h1]
    simp only [noX, R.bind_ok]
    rw [hw, lcS_map ds h0 fun d' hd => h d' (List.mem_cons_of_mem _ hd)]
    rfl
/-- with a test -/
theorem lcS_filt {el : MD D} {t : MD Bool} {hh : D → D} {p : D → Bool} : ∀ (ds : List D), e[i]? = some none → (∀ d ∈ ds, t (e.set i (some d)) = .ok (p d, e.set i (some d))) → (∀ d ∈ ds, p d = true → el (e.set i (some d)) = .ok (hh d, e.set i (some d))) → lcS [i] (nmG i) t el ds e = .ok ((ds.filter p).map hh, e)
  | [], _, _, _ => rfl
  | d :: ds, h0, ht, h => by
    have h1 := h d (List.mem_cons_self ..)
    have h2 := ht d (List.mem_cons_self ..)
    have hw : wipeL (e.set i (some d)) [i] = e := by
      show (e.set i (some d)).set i none = e
      rw [List.set_set]
      apply List.ext_getElem?
      intro j
      by_cases hj : i = j
      · subst hj
        rw [List.getElem?_set_self (by rw [List.getElem?_eq_some_iff] at h0; exact h0.1), h0]
      · rw [List.getElem?_set_ne hj]
    have ih := lcS_filt (el := el) (t := t) (hh := hh) (p := p) ds h0 (fun d' hd => ht d' (List.mem_cons_of_mem _ hd)) fun d' hd => h d' (List.mem_cons_of_mem _ hd)
    unfold lcS
    simp only [nmG, noX, R.bind_ok]
    rw [h2]
    simp only [noX, R.bind_ok]
    cases hp : p d with
    | true =>
      dsimp only
      rw [h1 hp]
      simp only [noX, R.bind_ok]
      rw [hw, ih, List.filter_cons_of_pos hp]
      rfl
    | false =>
      dsimp only
      rw [hw, ih, List.filter_cons_of_neg (by rw [hp]; exact Bool.false_ne_true)]
theorem wipe1 : wipeL e [i] = e.set i none := rfl
theorem keep1 {e' : Lc} : keepL e e' [i] = e'.set i (e.getD i none) := rfl
theorem set_back (h : i < e.length) : (e.set i none).set i (e.getD i none) = e := by
  rw [List.set_set]
  apply List.ext_getElem?
  intro j
  by_cases hj : i = j
  · subst hj
    rw [List.getElem?_set_self h, List.getD_eq_getElem?_getD, List.getElem?_eq_getElem h]
    rfl
  · rw [List.getElem?_set_ne hj]
theorem lcM_map {el : MD D} {F : MD (List D)} {ds : List D} {hh : D → D} (hF : F e = .ok (ds, e)) (hz : ds.length ≤ sizeLine) (hi : i < e.length) (h : ∀ d ∈ ds, el (e.set i (some d)) = .ok (hh d, e.set i (some d))) : lcM [i] F (nmG i) yesT el e = .ok (ds.map hh, e) := by
  unfold lcM
  rw [hF]
  simp only [R.bind_ok]
  rw [if_pos hz, wipe1]
  have e0 : ∀ d, (e.set i none).set i (some d) = e.set i (some d) := fun d => List.set_set ..
  rw [lcS_map (hh := hh) ds (List.getElem?_set_self hi) fun d hd => by rw [e0]; exact h d hd]
  simp only [R.bind_ok, keep1]
  rw [set_back hi]
theorem lcM_filt {el : MD D} {t : MD Bool} {F : MD (List D)} {ds : List D} {hh : D → D} {p : D → Bool} (hF : F e = .ok (ds, e)) (hz : ds.length ≤ sizeLine) (hi : i < e.length) (ht : ∀ d ∈ ds, t (e.set i (some d)) = .ok (p d, e.set i (some d))) (h : ∀ d ∈ ds, p d = true → el (e.set i (some d)) = .ok (hh d, e.set i (some d))) : lcM [i] F (nmG i) t el e = .ok ((ds.filter p).map hh, e) := by
  unfold lcM
  rw [hF]
  simp only [R.bind_ok]
  rw [if_pos hz, wipe1]
  have e0 : ∀ d, (e.set i none).set i (some d) = e.set i (some d) := fun d => List.set_set ..
  rw [lcS_filt (hh := hh) (p := p) ds (List.getElem?_set_self hi) (fun d hd => by rw [e0]; exact ht d hd) fun d hd hp => by rw [e0]; exact h d hd hp]
  simp only [R.bind_ok, keep1]
  rw [set_back hi]
theorem blsD_map (p : D → Bool) : ∀ ds : List D, blsD (ds.map fun d => .bl (p d)) = some (ds.map p)
  | [] => rfl
  | d :: ds => by
    simp [blsD, blsD_map p ds]
end
@[simp] theorem ite_bl (c : Prop) [Decidable c] : (if c then R.ok (D.bl true) else R.ok (D.bl false)) = R.ok (D.bl (decide c)) := by
  by_cases h : c <;> simp [h]
@[simp] theorem ite_bl' (c : Prop) [Decidable c] (b : Bool) : (if c then R.ok (D.bl b) else R.ok (D.bl false)) = R.ok (D.bl (decide c && b)) := by
  by_cases h : c <;> simp [h]
@[simp] theorem ite_blF (c : Prop) [Decidable c] (b : Bool) : (if c then R.ok (D.bl false) else R.ok (D.bl b)) = R.ok (D.bl (!decide c && b)) := by
  by_cases h : c <;> simp [h]
theorem mulD_int (i j : Int) : mulD (.int i) (.int j) = if i.natAbs.log2 + j.natAbs.log2 < 1000000 then .ok (.int (i * j)) else .bad := rfl
theorem fdivD_int (i j : Int) : fdivD (.int i) (.int j) = if (0 < j ∧ j.natAbs.log2 < 9000) ∨ (j ≠ 0 ∧ j.natAbs < 1073741824) then .ok (.int (i.fdiv j)) else .bad := rfl
theorem lcS_gen {vs : List Nat} {g : GD} {el : MD D} {hh : D → D} {e : Lc} : ∀ (ds : List D), (∀ d ∈ ds, ∃ e1, g d e = .ok e1 ∧ el e1 = .ok (hh d, e1) ∧ wipeL e1 vs = e) → lcS vs g yesT el ds e = .ok (ds.map hh, e)
  | [], _ => rfl
  | d :: ds, h => by
    obtain ⟨e1, h1, h2, h3⟩ := h d (List.mem_cons_self ..)
    unfold lcS
    rw [h1]
    simp only [noX, R.bind_ok, yesT]
    rw [h2]
    simp only [noX, R.bind_ok]
    rw [h3, lcS_gen ds fun d' hd => h d' (List.mem_cons_of_mem _ hd)]
    rfl
theorem lcS2_flat {vs vs1 : List Nat} {g g1 : GD} {f1 : MD (List D)} {el : MD D} {L : D → List D} {e : Lc} {B : Nat} : ∀ (ds : List D) (n : Nat), (∀ d ∈ ds, ∃ e1 q er, g d e = .ok e1 ∧ f1 e1 = .ok (q, e1) ∧ q.length ≤ B ∧ (L d).length ≤ B ∧ lcS vs1 g1 yesT el q (wipeL e1 vs1) = .ok (L d, er) ∧ wipeL er vs = e) → n + B * ds.length ≤ sizeLine →
    lcS2 vs vs1 g yesT f1 g1 yesT el ds n e = .ok (ds.flatMap L, e)
  | [], n, _, _ => rfl
  | d :: ds, n, h, hz => by
    obtain ⟨e1, q, er, h1, h2, h3, h4, h5, h6⟩ := h d (List.mem_cons_self ..)
    rw [List.length_cons, Nat.mul_succ] at hz
    unfold lcS2
    rw [h1]
    simp only [noX, R.bind_ok, yesT]
    rw [h2]
    simp only [noX, R.bind_ok]
    rw [if_pos (by omega)]
    rw [h5]
    simp only [R.bind_ok]
    rw [h6]
    have ih := lcS2_flat (L := L) (B := B) ds (n + (L d).length) (fun d' hd => h d' (List.mem_cons_of_mem _ hd)) (by omega)
    rw [ih]
    rfl
theorem cut_take {α : Type} (xs : List α) (k : Nat) : cutG xs none (some (k : Int)) = xs.take k := by
  unfold cutG
  rw [HT.sIx_none, HT.sIx_nat, List.drop_zero, Nat.sub_zero]
  by_cases h : k ≤ xs.length
  · rw [Nat.min_eq_left h]
  · rw [Nat.min_eq_right (by omega), List.take_of_length_le (by omega), List.take_of_length_le (by omega)]
theorem cut_drop {α : Type} (xs : List α) (k : Nat) : cutG xs (some (k : Int)) none = xs.drop k := by
  unfold cutG
  rw [HT.sIx_none, HT.sIx_nat]
  by_cases h : k ≤ xs.length
  · rw [Nat.min_eq_left h, List.take_of_length_le (by rw [List.length_drop]; omega)]
  · rw [Nat.min_eq_right (by omega), Nat.sub_self, List.take_zero, List.drop_of_length_le (by omega)]
theorem sli_take {e : Lc} {i j k : Nat} {ds : List D} (hj : e[j]? = some (some (.tup ds))) (hi : e[i]? = some (some (.int k))) : sliE (vr j) noP (soP (vr i)) e = .ok (.tup (ds.take k), e) := by
  unfold sliE noP soP
  rw [vr_get _ _ _ hj]
  simp only [R.bind_ok]
  rw [vr_get _ _ _ hi]
  simp only [R.bind_ok, sliR, cut_take, R.at_ok]
theorem idx_tup {ds : List D} {k : Nat} {d : D} (h : ds[k]? = some d) : idxD (.tup ds) (.int k) = .ok d := by
  unfold idxD atI
  have : ixN ds.length (k : Int) = some k := by
    have := (List.getElem?_eq_some_iff.mp h).1
    unfold ixN
    simp
    omega
  simp only [this]
  simp [h]
/-- a loop that may be left by a return -/
theorem forS_rt {g : GD} {b : MS} {d r : D} {ds : List D} {e e1 e2 : Lc} (h1 : g d e = .ok e1) (h2 : b e1 = .ok (.rt r, e2)) : forS g b (d :: ds) e = .ok (.rt r, e2) := by
  unfold forS
  rw [h1]
  simp only [R.bind_ok]
  rw [h2]
  rfl
end Dn

namespace Dn
open PySem PySem.Spec PyProof.Rows L2
/-! ### what comes out, forwards -/
def Ok {α : Type} (r : R α) (Q : α → Prop) : Prop := ∃ a, r = .ok a ∧ Q a
def OkI (r : R (D × D)) (Q : D → D → Prop) : Prop := ∃ a b, r = .ok (a, b) ∧ Q a b
def Wp {α : Type} (m : Lc → R (α × Lc)) (e : Lc) (Q : α → Lc → Prop) : Prop := ∃ a e', m e = .ok (a, e') ∧ Q a e'
def SeqW (g : MS) (Q : Fl → Lc → Prop) (fl : Fl) (e : Lc) : Prop := match fl with
  | .nx => Wp g e Q
  | fl => Q fl e
def IfC (b : Bool) (A B : Prop) : Prop := (b = true → A) ∧ (b = false → B)
def BlC (d : D) (K : Bool → Prop) : Prop := ∃ b, d = .bl b ∧ K b
def GetC (i : Nat) (e : Lc) (K : D → Prop) : Prop := ∃ d, e[i]? = some (some d) ∧ K d
def GetL (i : Nat) (e : Lc) (K : List D → Prop) : Prop := ∃ d, e[i]? = some (some (.lst d)) ∧ K d
def LstC (d : D) (K : List D → Prop) : Prop := ∃ ds, d = .lst ds ∧ K ds
def NatC (d : D) (K : Nat → Prop) : Prop := ∃ n : Nat, d = .int n ∧ K n
def OneC (ds : List D) (K : D → Prop) : Prop := ∃ d, ds = [d] ∧ K d
theorem nat_c {K : Nat → Prop} {n : Nat} (h : K n) : NatC (.int n) K := ⟨n, rfl, h⟩
theorem nat_l {K : Nat → Prop} {n : Nat} (h : K (OfNat.ofNat n)) : NatC (.int (OfNat.ofNat n)) K := ⟨OfNat.ofNat n, rfl, h⟩
theorem nat_i {K : Nat → Prop} {i : Int} (hi : 0 ≤ i) (h : ∀ n : Nat, (n : Int) = i → K n) : NatC (.int i) K := ⟨i.toNat, by rw [Int.toNat_of_nonneg hi], h _ (Int.toNat_of_nonneg hi)⟩
theorem one_c {K : D → Prop} {d : D} (h : K d) : OneC [d] K := ⟨d, rfl, h⟩
def IntC (d : D) (K : Int → Prop) : Prop := ∃ i, d = .int i ∧ K i
theorem Ok.mono {α : Type} {r : R α} {P Q : α → Prop} (h : Ok r P) (f : ∀ a, P a → Q a) : Ok r Q := by
  obtain ⟨a, h1, h2⟩ := h
  exact ⟨a, h1, f a h2⟩
theorem OkI.mono {r : R (D × D)} {P Q : D → D → Prop} (h : OkI r P) (f : ∀ a b, P a b → Q a b) : OkI r Q := by
  obtain ⟨a, b, h1, h2⟩ := h
  exact ⟨a, b, h1, f a b h2⟩
theorem Wp.mono {α : Type} {m : Lc → R (α × Lc)} {e : Lc} {P Q : α → Lc → Prop} (h : Wp m e P) (f : ∀ a b, P a b → Q a b) : Wp m e Q := by
  obtain ⟨a, b, h1, h2⟩ := h
  exact ⟨a, b, h1, f a b h2⟩
theorem o_ok {α : Type} {a : α} {Q : α → Prop} (h : Q a) : Ok (.ok a) Q := ⟨a, rfl, h⟩
theorem o_eq {α : Type} {r : R α} {a : α} {Q : α → Prop} (e : r = .ok a) (h : Q a) : Ok r Q := ⟨a, e, h⟩
theorem o_out {α : Type} {r : R α} {a : α} (h : Ok r fun x => x = a) : r = .ok a := by
  obtain ⟨b, h1, rfl⟩ := h
  exact h1
/-! conditions -/
section
variable {A B : Prop} {b : Bool} {c : Prop} [Decidable c]
theorem if_t (h : A) : IfC true A B := ⟨fun _ => h, fun z => by cases z⟩
theorem if_f (h : B) : IfC false A B := ⟨fun z => (by cases z), fun _ => h⟩
theorem if_n (h : IfC b B A) : IfC (!b) A B := ⟨fun z => h.2 (by simpa using z), fun z => h.1 (by simpa using z)⟩
theorem if_d (h1 : c → A) (h2 : ¬c → B) : IfC (decide c) A B := ⟨fun z => h1 (of_decide_eq_true z), fun z => h2 (of_decide_eq_false z)⟩
theorem if_e {i j : Int} (h1 : i = j → A) (h2 : i ≠ j → B) : IfC (i == j) A B := ⟨fun z => h1 (by simpa using z), fun z => h2 (by simpa using z)⟩
theorem if_s {i j : Str} (h1 : i = j → A) (h2 : i ≠ j → B) : IfC (i == j) A B := ⟨fun z => h1 (by simpa using z), fun z => h2 (by simpa using z)⟩
theorem if_v (h1 : b = true → A) (h2 : b = false → B) : IfC b A B := ⟨h1, h2⟩
theorem bl_c {K : Bool → Prop} (h : K b) : BlC (.bl b) K := ⟨b, rfl, h⟩
theorem lst_c {K : List D → Prop} {ds : List D} (h : K ds) : LstC (.lst ds) K := ⟨ds, rfl, h⟩
theorem int_c {K : Int → Prop} {i : Int} (h : K i) : IntC (.int i) K := ⟨i, rfl, h⟩
theorem get_c {i : Nat} {e : Lc} {d : D} {K : D → Prop} (h : e[i]? = some (some d)) (k : K d) : GetC i e K := ⟨d, h, k⟩
theorem get_l {i : Nat} {e : Lc} {d : List D} {K : List D → Prop} (h : e[i]? = some (some (.lst d))) (k : K d) : GetL i e K := ⟨d, h, k⟩
end
/-! statements, expressions -/
section
variable {α : Type} {f g : MS} {fl : Fl} {e : Lc} {Q : Fl → Lc → Prop} {QD : D → Lc → Prop} {QB : Bool → Lc → Prop} {QL : List D → Lc → Prop} {QO : Option Int → Lc → Prop} {QG : Lc → Prop}
  {x y : MD D} {t u : MD Bool} {a : MD (List D)} {l o : MD (Option Int)} {i j n : Nat} {d : D} {ds : List D} {gd : GD}
theorem w_seq (h : Wp f e (SeqW g Q)) : Wp (seqS f g) e Q := by
  obtain ⟨fl, e', h1, h2⟩ := h
  show ∃ _ _, _ ∧ _
  rw [s_seq, h1]
  cases fl with
  | nx => exact h2
  | rt d => exact ⟨_, _, rfl, h2⟩
  | bk => exact ⟨_, _, rfl, h2⟩
  | ct => exact ⟨_, _, rfl, h2⟩
theorem q_nx (h : Wp g e Q) : SeqW g Q .nx e := h
theorem q_rt (h : Q (.rt d) e) : SeqW g Q (.rt d) e := h
theorem w_nx (h : Q .nx e) : Wp nxS e Q := ⟨_, _, rfl, h⟩
theorem w_ret (h : Wp x e fun d e1 => Q (.rt d) e1) : Wp (retS x) e Q := by
  obtain ⟨d, e', h1, h2⟩ := h
  exact ⟨_, _, by rw [s_ret, h1]; rfl, h2⟩
theorem w_if (h : Wp t e fun b e1 => IfC b (Wp f e1 Q) (Wp g e1 Q)) : Wp (ifS t f g) e Q := by
  obtain ⟨b, e', h1, h2⟩ := h
  show ∃ _ _, _ ∧ _
  rw [s_if, h1]
  cases b with
  | true => exact h2.1 rfl
  | false => exact h2.2 rfl
theorem w_ifV (h : Wp t e fun b e1 => IfC b (Wp x e1 QD) (Wp y e1 QD)) : Wp (ifV t x y) e QD := by
  obtain ⟨b, e', h1, h2⟩ := h
  show ∃ _ _, _ ∧ _
  rw [s_ifV, h1]
  cases b with
  | true => exact h2.1 rfl
  | false => exact h2.2 rfl
theorem w_andT (h : Wp t e fun b e1 => IfC b (Wp u e1 QB) (QB false e1)) : Wp (andT t u) e QB := by
  obtain ⟨b, e', h1, h2⟩ := h
  show ∃ _ _, _ ∧ _
  rw [s_andT, h1]
  cases b with
  | true => exact h2.1 rfl
  | false => exact ⟨_, _, rfl, h2.2 rfl⟩
theorem w_orT (h : Wp t e fun b e1 => IfC b (QB true e1) (Wp u e1 QB)) : Wp (orT t u) e QB := by
  obtain ⟨b, e', h1, h2⟩ := h
  show ∃ _ _, _ ∧ _
  rw [s_orT, h1]
  cases b with
  | true => exact ⟨_, _, rfl, h2.1 rfl⟩
  | false => exact h2.2 rfl
theorem w_notT (h : Wp t e fun b e1 => QB (!b) e1) : Wp (notT t) e QB := by
  obtain ⟨b, e', h1, h2⟩ := h
  exact ⟨_, _, by rw [s_notT, h1]; rfl, h2⟩
theorem w_andV (h : Wp x e fun d e1 => BlC d fun b => IfC b (Wp y e1 QD) (QD (.bl false) e1)) : Wp (andV x y) e QD := by
  obtain ⟨_, e', h1, b, rfl, h2⟩ := h
  show ∃ _ _, _ ∧ _
  rw [s_andV, h1]
  cases b with
  | true => exact h2.1 rfl
  | false => exact ⟨_, _, rfl, h2.2 rfl⟩
theorem w_orV (h : Wp x e fun d e1 => BlC d fun b => IfC b (QD (.bl true) e1) (Wp y e1 QD)) : Wp (orV x y) e QD := by
  obtain ⟨_, e', h1, b, rfl, h2⟩ := h
  show ∃ _ _, _ ∧ _
  rw [s_orV, h1]
  cases b with
  | true => exact ⟨_, _, rfl, h2.1 rfl⟩
  | false => exact h2.2 rfl
theorem w_notV (h : Wp x e fun d e1 => BlC d fun b => QD (.bl (!b)) e1) : Wp (notV x) e QD := by
  obtain ⟨_, e', h1, b, rfl, h2⟩ := h
  exact ⟨_, _, by rw [s_notV, h1]; rfl, h2⟩
theorem w_bin2 {op : D → D → R D} (h : Wp x e fun d e1 => Wp y e1 fun d2 e2 => Ok (op d d2) fun r => QD r e2) : Wp (bin2 op x y) e QD := by
  obtain ⟨d, e1, h1, d2, e2, h2, r, h3, h4⟩ := h
  exact ⟨r, e2, by simp only [s_bin2, h1, h2, h3, R.bind_ok, R.at_ok], h4⟩
theorem w_un1 {op : D → R D} (h : Wp x e fun d e1 => Ok (op d) fun r => QD r e1) : Wp (un1 op x) e QD := by
  obtain ⟨d, e1, h1, r, h3, h4⟩ := h
  exact ⟨r, e1, by simp only [s_un1, h1, h3, R.bind_ok, R.at_ok], h4⟩
theorem w_cst (h : QD d e) : Wp (cst d) e QD := ⟨_, _, rfl, h⟩
theorem w_vr (h : e[i]? = some (some d)) (k : QD d e) : Wp (vr i) e QD := ⟨_, _, vr_get _ _ _ h, k⟩
theorem w_tst (h : Wp x e fun d e1 => BlC d fun b => QB b e1) : Wp (tst x) e QB := by
  obtain ⟨_, e', h1, b, rfl, h2⟩ := h
  exact ⟨_, _, by rw [s_tst, h1]; rfl, h2⟩
theorem w_tru (h : Wp x e fun d e1 => Ok (truR d) fun b => QB b e1) : Wp (tru x) e QB := by
  obtain ⟨d, e', h1, b, h3, h2⟩ := h
  exact ⟨_, _, by rw [s_tru, h1, R.bind_ok, h3]; rfl, h2⟩
theorem w_nilA (h : QL [] e) : Wp nilA e QL := ⟨_, _, rfl, h⟩
theorem w_consA (h : Wp x e fun d e1 => Wp a e1 fun ds e2 => QL (d :: ds) e2) : Wp (consA x a) e QL := by
  obtain ⟨d, e1, h1, ds, e2, h2, h3⟩ := h
  exact ⟨_, _, by simp only [s_consA, h1, h2, R.bind_ok], h3⟩
theorem w_callD {F : List D → R D} (h : Wp a e fun ds e1 => Ok (F ds) fun r => QD r e1) : Wp (callD F a) e QD := by
  obtain ⟨ds, e1, h1, r, h3, h4⟩ := h
  exact ⟨r, e1, by simp only [s_callD, h1, h3, R.bind_ok, R.at_ok], h4⟩
theorem w_calM {F : List D → R D} {dd : List D} (h : Wp a e fun ds e1 => Ok (F (ds ++ dd)) fun r => QD r e1) : Wp (calM F dd a) e QD := by
  obtain ⟨ds, e1, h1, r, h3, h4⟩ := h
  exact ⟨r, e1, by simp only [s_calM, h1, h3, R.bind_ok, R.at_ok], h4⟩
theorem w_calK {F : List D → R D} {gg : List D → List D → List D} {k : MD (List D)} (h : Wp a e fun ds e1 => Wp k e1 fun es e2 => Ok (F (gg ds es)) fun r => QD r e2) : Wp (calK F gg a k) e QD := by
  obtain ⟨ds, e1, h1, es, e2, h2, r, h3, h4⟩ := h
  exact ⟨r, e2, by simp only [calK, h1, h2, h3, R.bind_ok, R.at_ok], h4⟩
theorem w_calI {F : D → List D → R (D × D)} (h0 : GetC i e fun _ => Wp a e fun ds e1 => GetC i e1 fun d0 => OkI (F d0 ds) fun r d1 => QD r (e1.set i (some d1))) : Wp (calI F i a) e QD := by
  obtain ⟨_, h0, ds, e1, h1, d0, h2, r, d1, h3, h4⟩ := h0
  exact ⟨r, _, by simp only [calI, h0, h1, h2, h3, R.bind_ok, noX], h4⟩
theorem w_caIF {F : D → List D → R (D × D)} (h0 : GetC i e fun _ => Wp a e fun ds e1 => GetC i e1 fun d0 => OkI (F d0 ds) fun r d1 => LstC r fun rs => QL rs (e1.set i (some d1))) : Wp (caIF F i a) e QL := by
  obtain ⟨_, h0, ds, e1, h1, d0, h2, _, d1, h3, rs, rfl, h4⟩ := h0
  exact ⟨rs, _, by simp only [caIF, h0, h1, h2, h3, R.bind_ok, noX], h4⟩
theorem w_calF {F : List D → R D} {dd : List D} (h : Wp a e fun ds e1 => Ok (F (ds ++ dd)) fun r => LstC r fun rs => QL rs e1) : Wp (calF F dd a) e QL := by
  obtain ⟨ds, e1, h1, _, h3, rs, rfl, h4⟩ := h
  exact ⟨rs, e1, by simp only [calF, lstR, h1, h3, R.bind_ok, R.at_ok], h4⟩
theorem w_caN {F : D → List D → R (D × D)} {ff : MD (List D)} (h : Wp ff e fun ps e0 => Wp a e0 fun ds e1 => OkI (F (.lst ps) ds) fun r _ => BlC r fun b => QD (.bl b) e1) : Wp (caN F ff a) e QD := by
  obtain ⟨ps, e0, h0, ds, e1, h1, _, d1, h3, b, rfl, h4⟩ := h
  exact ⟨_, e1, by simp only [caN, h0, h1, h3, R.bind_ok, noX], h4⟩
theorem w_asL (h : Wp a e fun ds e1 => QD (.lst ds) e1) : Wp (asL a) e QD := by
  obtain ⟨ds, e1, h1, h2⟩ := h
  exact ⟨_, _, by rw [s_asL, h1]; rfl, h2⟩
def SqC (d : D) (K : List D → Prop) : Prop := ∃ ds, (d = .lst ds ∨ d = .tup ds) ∧ K ds
theorem sq_l {K : List D → Prop} (h : K ds) : SqC (.lst ds) K := ⟨ds, .inl rfl, h⟩
theorem sq_t {K : List D → Prop} (h : K ds) : SqC (.tup ds) K := ⟨ds, .inr rfl, h⟩
theorem w_seqM (h : Wp x e fun d e1 => SqC d fun ds => QL ds e1) : Wp (seqM x) e QL := by
  obtain ⟨_, e1, h1, ds, rfl | rfl, h2⟩ := h
  · exact ⟨_, _, by rw [s_seqM, h1]; rfl, h2⟩
  · exact ⟨_, _, by rw [s_seqM, h1]; rfl, h2⟩
theorem w_setS (h : Wp x e fun d e1 => Q .nx (e1.set i (some d))) : Wp (setS i x) e Q := by
  obtain ⟨d, e1, h1, h2⟩ := h
  exact ⟨_, _, by rw [s_setS, h1]; rfl, h2⟩
theorem w_setO (h : Wp a e fun ds e1 => Q .nx (e1.set i (some (.lst ds)))) : Wp (setO i a) e Q := by
  obtain ⟨d, e1, h1, h2⟩ := h
  exact ⟨_, _, by rw [s_setO, h1]; rfl, h2⟩
theorem w_asg (h : Wp x e fun d e1 => Ok (gd d e1) fun e2 => Q .nx e2) : Wp (asgS x gd) e Q := by
  obtain ⟨d, e1, h1, e2, h2, h3⟩ := h
  exact ⟨_, _, by simp only [s_asg, h1, h2, R.bind_ok], h3⟩
theorem w_exp (h : Wp x e fun _ e1 => Q .nx e1) : Wp (expS x) e Q := by
  obtain ⟨d, e1, h1, h2⟩ := h
  exact ⟨_, _, by unfold expS; rw [h1]; rfl, h2⟩
theorem w_tupE (h : Wp a e fun ds e1 => ds.length ≤ sizeLine ∧ QD (.tup ds) e1) : Wp (tupE a) e QD := by
  obtain ⟨ds, e1, h1, h2, h3⟩ := h
  exact ⟨_, _, by simp only [s_tupE, h1, R.bind_ok, szR, if_pos h2, R.at_ok], h3⟩
theorem w_lstE (h : Wp a e fun ds e1 => ds.length ≤ sizeLine ∧ QD (.lst ds) e1) : Wp (lstE a) e QD := by
  obtain ⟨ds, e1, h1, h2, h3⟩ := h
  exact ⟨_, _, by simp only [s_lstE, h1, R.bind_ok, szR, if_pos h2, R.at_ok], h3⟩
theorem w_szA (h : Wp a e fun ds e1 => ds.length ≤ sizeLine ∧ QL ds e1) : Wp (szA a) e QL := by
  obtain ⟨ds, e1, h1, h2, h3⟩ := h
  exact ⟨_, _, by simp only [szA, h1, R.bind_ok, if_pos h2], h3⟩
theorem w_parS (h : Wp x e fun d e1 => Wp y e1 fun d2 e2 => Q .nx ((e2.set i (some d)).set j (some d2))) : Wp (parS i j x y) e Q := by
  obtain ⟨d, e1, h1, d2, e2, h2, h3⟩ := h
  exact ⟨_, _, by simp only [s_parS, h1, h2, R.bind_ok], h3⟩
theorem w_parS2 (h : Wp x e fun d e1 => Wp a e1 fun ds e2 => Q .nx ((e2.set i (some d)).set j (some (.lst ds)))) : Wp (parS2 i j x a) e Q := by
  obtain ⟨d, e1, h1, d2, e2, h2, h3⟩ := h
  exact ⟨_, _, by simp only [parS2, h1, h2, R.bind_ok], h3⟩
theorem w_parS1 (h : Wp a e fun ds e1 => Wp y e1 fun d e2 => Q .nx ((e2.set i (some (.lst ds))).set j (some d))) : Wp (parS1 i j a y) e Q := by
  obtain ⟨d, e1, h1, d2, e2, h2, h3⟩ := h
  exact ⟨_, _, by simp only [parS1, h1, h2, R.bind_ok, noX], h3⟩
theorem w_oix (h : GetL i e fun _ => Wp x e fun d e1 => GetL i e1 fun ds => Ok (idxD (.lst ds) d) fun r => QD r e1) : Wp (oix i x) e QD := by
  obtain ⟨_, h0, d, e1, h1, ds, h2, r, h3, h4⟩ := h
  exact ⟨r, e1, by simp only [oix, h0, h1, h2, h3, R.bind_ok, R.at_ok], h4⟩
theorem w_isL (h : GetL i e fun _ => Wp f e Q) : Wp (isL i f) e Q := by
  obtain ⟨_, h0, fl, e1, h1, h2⟩ := h
  exact ⟨fl, e1, by simp only [isL, h0, h1], h2⟩
theorem w_appS (h : Wp x e fun d e1 => GetL i e1 fun ds => ds.length < sizeLine ∧ Q .nx (e1.set i (some (.lst (ds ++ [d]))))) : Wp (appS i x) e Q := by
  obtain ⟨d, e1, h1, ds, h2, h3, h4⟩ := h
  exact ⟨_, _, by simp only [appS, h1, h2, R.bind_ok, if_pos h3], h4⟩
theorem w_popK (h : GetL i e fun _ => Wp x e fun d e1 => GetL i e1 fun ds => NatC d fun k => ∃ r : D, ds[k]? = some r ∧ ds.length < 2 ^ 63 ∧ QD r (e1.set i (some (.lst (ds.eraseIdx k))))) : Wp (popK i x) e QD := by
  obtain ⟨_, h0, _, e1, h1, ds, h2, k, rfl, r, h3, h4, h5⟩ := h
  have hk : k < ds.length := (List.getElem?_eq_some_iff.mp h3).1
  have hs : seqIndex? (k : Int) ds.length = some k := by
    unfold seqIndex?
    simp
    omega
  have hz : -(2 ^ 63) ≤ (k : Int) ∧ (k : Int) < 2 ^ 63 := by omega
  exact ⟨r, _, by simp only [popK, h0, h1, h2, R.bind_ok, if_pos hz, hs, h3], h5⟩
theorem w_insK (h : GetL i e fun _ => Wp x e fun d e1 => Wp y e1 fun d2 e2 => GetL i e2 fun ds => NatC d fun k => k < 2 ^ 63 ∧ ds.length < sizeLine ∧ QD .non (e2.set i (some (.lst (ds.take k ++ [d2] ++ ds.drop k))))) : Wp (insK i x y) e QD := by
  obtain ⟨_, h0, _, e1, h1, d2, e2, h2, ds, h3, k, rfl, h4, h5, h6⟩ := h
  exact ⟨_, _, by simp only [insK, h0, h1, h2, h3, R.bind_ok]; rw [if_pos (by omega), Int.toNat_natCast], h6⟩
theorem rg62 {n : Nat} (h : n ≤ 1000000) : -(2 ^ 62) ≤ (n : Int) ∧ (n : Int) < 2 ^ 62 := by
  have h1 : (n : Int) ≤ 1000000 := Int.ofNat_le.mpr h
  have h2 : (0 : Int) ≤ (n : Int) := Int.natCast_nonneg n
  exact ⟨Int.le_trans (by decide) h2, Int.lt_of_le_of_lt h1 (by decide)⟩
def oneL (K : Int → R (List D × Lc)) : List D → R (List D × Lc)
  | [.int j] => K j
  | _ => .bad
def oneD (K : Int → R (List D × Lc)) : D → R (List D × Lc)
  | .int j => K j
  | _ => .bad
theorem rng1M_eq (a : MD (List D)) (e : Lc) : rng1M a e = (a e).bind fun q => oneL (fun j => if -(2 ^ 62) ≤ j ∧ j < 2 ^ 62 then .ok (rngL 0 j.toNat, q.2) else .bad) q.1 := rfl
theorem rngF1_eq (a : MD D) (e : Lc) : rngF1 a e = (a e).bind fun q => oneD (fun j => if -(2 ^ 62) ≤ j ∧ j < 2 ^ 62 ∧ j.toNat ≤ 2 ^ 24 then .ok (rngL 0 j.toNat, q.2) else .bad) q.1 := rfl
theorem oneL_c (K : Int → R (List D × Lc)) (n : Int) : oneL K [.int n] = K n := rfl
theorem oneD_c (K : Int → R (List D × Lc)) (n : Int) : oneD K (.int n) = K n := rfl
theorem rng1M_ok {a : MD (List D)} {e e1 : Lc} {n : Nat} (h : a e = .ok ([.int n], e1)) (hn : n ≤ 1000000) : rng1M a e = .ok (rngL 0 n, e1) := by
  rw [rng1M_eq, h, R.bind_ok]
  show oneL _ [.int n] = _
  rw [oneL_c, if_pos (rg62 hn), Int.toNat_natCast]
theorem w_rngF1 (h : Wp x e fun d e1 => NatC d fun n => n ≤ 1000000 ∧ QL (rngL 0 n) e1) : Wp (rngF1 x) e QL := by
  obtain ⟨_, e1, h1, n, rfl, h2, h3⟩ := h
  have hz : -(2 ^ 62) ≤ (n : Int) ∧ (n : Int) < 2 ^ 62 ∧ (n : Int).toNat ≤ 2 ^ 24 := ⟨(rg62 h2).1, (rg62 h2).2, by rw [Int.toNat_natCast]; exact Nat.le_trans h2 (by decide)⟩
  refine ⟨_, _, ?_, h3⟩
  rw [rngF1_eq, h1, R.bind_ok]
  show oneD _ (.int n) = _
  rw [oneD_c, if_pos hz, Int.toNat_natCast]
theorem w_rng1M (h : Wp a e fun ds e1 => OneC ds fun d => NatC d fun n => n ≤ 1000000 ∧ QL (rngL 0 n) e1) : Wp (rng1M a) e QL := by
  obtain ⟨_, e1, h1, _, rfl, n, rfl, h2, h3⟩ := h
  exact ⟨_, _, rng1M_ok h1 h2, h3⟩
theorem w_callO {F : List D → R D} (h : GetC i e fun d => Ok (F [d]) fun r => QD r e) : Wp (callO F i) e QD := by
  obtain ⟨d, h0, r, h1, h2⟩ := h
  exact ⟨_, _, by simp only [callO, h0, h1, R.at_ok], h2⟩
theorem w_sliO (h : GetL i e fun _ => Wp l e fun lo e1 => Wp o e1 fun hi e2 => GetL i e2 fun ds => QD (.lst (cutG ds lo hi)) e2) : Wp (sliO i l o) e QD := by
  obtain ⟨_, h0, lo, e1, h1, hi, e2, h2, ds, h3, h4⟩ := h
  exact ⟨_, _, by simp only [sliO, h0, h1, h2, h3, R.bind_ok], h4⟩
theorem w_sliE (h : Wp x e fun d e1 => Wp l e1 fun lo e2 => Wp o e2 fun hi e3 => Ok (sliR lo hi d) fun r => QD r e3) : Wp (sliE x l o) e QD := by
  obtain ⟨d, e1, h1, lo, e2, h2, hi, e3, h3, r, h4, h5⟩ := h
  exact ⟨_, _, by simp only [sliE, h1, h2, h3, h4, R.bind_ok, R.at_ok], h5⟩
theorem w_noP (h : QO none e) : Wp noP e QO := ⟨_, _, rfl, h⟩
theorem w_soP (h : Wp x e fun d e1 => IntC d fun k => QO (some k) e1) : Wp (soP x) e QO := by
  obtain ⟨_, e1, h1, k, rfl, h2⟩ := h
  exact ⟨_, _, by simp only [soP, h1, R.bind_ok], h2⟩
theorem w_addF (h : Wp x e fun d e1 => Wp y e1 fun d2 e2 => LstC d fun xs => LstC d2 fun ys => xs.length + ys.length ≤ sizeLine ∧ QL (xs ++ ys) e2) : Wp (addF x y) e QL := by
  obtain ⟨_, e1, h1, _, e2, h2, xs, rfl, ys, rfl, h3, h4⟩ := h
  exact ⟨_, _, by simp only [addF, h1, h2, R.bind_ok, if_pos h3], h4⟩
theorem w_bin2L {op : D → D → R D} (h : GetC i e fun _ => Wp x e fun d e1 => GetC i e1 fun d0 => Ok (op d0 d) fun r => QD r e1) : Wp (bin2L op i x) e QD := by
  obtain ⟨_, h0, d, e1, h1, d0, h2, r, h3, h4⟩ := h
  exact ⟨_, _, by simp only [bin2L, h0, h1, h2, h3, R.bind_ok, R.at_ok], h4⟩
theorem w_bin2R {op : D → D → R D} (h : Wp x e fun d e1 => GetC i e1 fun d0 => Ok (op d d0) fun r => QD r e1) : Wp (bin2R op x i) e QD := by
  obtain ⟨d, e1, h1, d0, h2, r, h3, h4⟩ := h
  exact ⟨_, _, by simp only [bin2R, h1, h2, h3, R.bind_ok, R.at_ok], h4⟩
theorem w_retL (h : GetL i e fun ds => Q (.rt (.lst ds)) e) : Wp (retL i) e Q := by
  obtain ⟨ds, h0, h1⟩ := h
  exact ⟨_, _, by simp only [retL, h0], h1⟩
theorem w_retF (h : Wp a e fun ds e1 => Q (.rt (.lst ds)) e1) : Wp (retF a) e Q := by
  obtain ⟨ds, e1, h0, h1⟩ := h
  exact ⟨_, _, by simp only [retF, h0, R.bind_ok], h1⟩
def IsRt (Q : Fl → Lc → Prop) (fl : Fl) (e : Lc) : Prop := (∃ d, fl = .rt d) ∧ Q fl e
theorem r_rt (h : Q (.rt d) e) : IsRt Q (.rt d) e := ⟨⟨d, rfl⟩, h⟩
theorem w_frz (h : Wp f e (IsRt Q)) : Wp (frzS f) e Q := by
  obtain ⟨_, e1, h1, ⟨d, rfl⟩, h3⟩ := h
  exact ⟨_, _, by simp only [frzS, h1], h3⟩
/-! targets -/
theorem g_nm (h : QG (e.set i (some d))) : Ok (nmG i d e) QG := ⟨_, rfl, h⟩
theorem g_tup {hh : List D → Lc → R Lc} (hn : ds.length = n) (h : Ok (hh ds e) QG) : Ok (tupG n hh (.tup ds) e) QG := by
  obtain ⟨e1, h1, h2⟩ := h
  exact ⟨e1, by simp only [tupG, hn, if_true, h1], h2⟩
theorem g_cons {hh : List D → Lc → R Lc} (h : Ok (gd d e) fun e1 => Ok (hh ds e1) QG) : Ok (consG gd hh (d :: ds) e) QG := by
  obtain ⟨e1, h1, e2, h2, h3⟩ := h
  exact ⟨e2, by simp only [consG, h1, h2, R.bind_ok], h3⟩
theorem g_nil (h : QG e) : Ok (nilG [] e) QG := ⟨_, rfl, h⟩
theorem g_isL (h : GetL i e fun _ => Ok (gd d e) QG) : Ok (isLG i gd d e) QG := by
  obtain ⟨_, h0, e1, h1, h2⟩ := h
  exact ⟨e1, by simp only [isLG, h0, h1], h2⟩
theorem g_sub (h : Wp x e fun k e1 => GetL i e1 fun ds => NatC k fun n => n < ds.length ∧ QG (e1.set i (some (.lst (ds.set n d))))) : Ok (subG i x d e) QG := by
  obtain ⟨_, e1, h1, ds, h2, n, rfl, h3, h4⟩ := h
  have : ixN ds.length (n : Int) = some n := by
    unfold ixN
    simp
    omega
  exact ⟨_, by simp only [subG, h1, h2, R.bind_ok, this], h4⟩
end
/-! functions -/
def OutW (nw : Bool) (Q : D → Prop) (fl : Fl) (e : Lc) : Prop := match fl with
  | .rt d => Q d
  | .nx => nw = false ∧ Q .non
  | _ => False
theorem t_rt {nw : Bool} {Q : D → Prop} {d : D} {e : Lc} (h : Q d) : OutW nw Q (.rt d) e := h
theorem w_runB {N : Nat} {nw : Bool} {fb : MS} {ds : List D} {Q : D → Prop} {e0 : Lc} (he : startL N ds = e0) (h : Wp fb e0 (OutW nw Q)) : Ok (runB N nw fb ds) Q := by
  subst he
  obtain ⟨fl, e, h1, h2⟩ := h
  rw [s_runB, h1]
  cases fl with
  | rt d => exact ⟨_, rfl, h2⟩
  | nx =>
    obtain ⟨rfl, h2⟩ := h2
    exact ⟨_, rfl, h2⟩
  | bk => exact h2.elim
  | ct => exact h2.elim
def OutX (nw : Bool) (Q : D → D → Prop) (fl : Fl) (e : Lc) : Prop := match fl with
  | .rt d => GetC 0 e fun d1 => Q d d1
  | .nx => nw = false ∧ GetC 0 e fun d1 => Q .non d1
  | _ => False
theorem x_rt {nw : Bool} {Q : D → D → Prop} {d : D} {e : Lc} (h : GetC 0 e fun d1 => Q d d1) : OutX nw Q (.rt d) e := h
theorem w_runI {N : Nat} {nw : Bool} {fb : MS} {d0 : D} {ds : List D} {Q : D → D → Prop} {e0 : Lc} (he : startL N (d0 :: ds) = e0) (h : Wp fb e0 (OutX nw Q)) : OkI (runI N nw fb d0 ds) Q := by
  subst he
  obtain ⟨fl, e, h1, h2⟩ := h
  unfold runI
  rw [h1]
  cases fl with
  | rt d =>
    obtain ⟨d1, h3, h4⟩ := h2
    exact ⟨_, _, by simp only [h3], h4⟩
  | nx =>
    obtain ⟨rfl, d1, h3, h4⟩ := h2
    exact ⟨_, _, by simp [h3], h4⟩
  | bk => exact h2.elim
  | ct => exact h2.elim
/-! loops -/
theorem w_forS {g : GD} {b : MS} (I : Nat → Lc → Prop) : ∀ (ds : List D) (k : Nat) (e : Lc), (∀ i d e, ds[i]? = some d → I (k + i) e → Ok (g d e) fun e1 => Wp b e1 fun fl e2 => fl = .nx ∧ I (k + i + 1) e2) → I k e → Wp (forS g b ds) e fun fl e2 => fl = .nx ∧ I (k + ds.length) e2
  | [], k, e, _, h => ⟨_, _, rfl, rfl, h⟩
  | d :: ds, k, e, hs, h => by
    obtain ⟨e1, h1, fl, e2, h2, rfl, h4⟩ := hs 0 d e rfl h
    obtain ⟨fl, e3, h5, rfl, h6⟩ := w_forS (g := g) (b := b) I ds (k + 1) e2 (fun i d e hi hI => by
      have e1 : k + 1 + i = k + (i + 1) := by omega
      rw [e1] at hI ⊢
      exact hs (i + 1) d e hi hI) h4
    refine ⟨_, e3, ?_, rfl, ?_⟩
    · unfold forS
      rw [h1]
      simp only [R.bind_ok]
      rw [h2]
      exact h5
    · have e1 : k + (d :: ds).length = k + 1 + ds.length := by simp [List.length_cons]; omega
      rw [e1]
      exact h6
theorem w_forM {F : MD (List D)} {g : GD} {b : MS} {e : Lc} {Q : Fl → Lc → Prop} (I : List D → Nat → Lc → Prop) (h : Wp F e fun ds e1 => I ds 0 e1 ∧ (∀ i d e, ds[i]? = some d → I ds i e → Ok (g d e) fun e1 => Wp b e1 fun fl e2 => fl = .nx ∧ I ds (i + 1) e2) ∧ ∀ e, I ds ds.length e → Q .nx e) : Wp (forM F g b) e Q := by
  obtain ⟨ds, e1, h0, h1, h2, h3⟩ := h
  obtain ⟨fl, e2, h4, rfl, h5⟩ := w_forS (g := g) (b := b) (I ds) ds 0 e1 (fun i d e h1 hI => by rw [Nat.zero_add] at hI ⊢; exact h2 i d e h1 hI) h1
  rw [Nat.zero_add] at h5
  exact ⟨_, e2, by rw [s_forM, h0, R.bind_ok]; exact h4, h3 e2 h5⟩
/-- a comprehension over one name, its element what it may be -/
theorem w_lcS {i : Nat} {el : MD D} {P : D → D → Prop} {e : Lc} : ∀ (ds : List D), e[i]? = some none → (∀ d ∈ ds, Wp el (e.set i (some d)) fun r e1 => e1 = e.set i (some d) ∧ P d r) → Wp (lcS [i] (nmG i) yesT el ds) e fun rs e1 => e1 = e ∧ rs.length = ds.length ∧ ∀ (j : Nat) (d r : D), ds[j]? = some d → rs[j]? = some r → P d r
  | [], _, _ => ⟨_, _, rfl, rfl, rfl, fun j d r h => by simp at h⟩
  | d :: ds, h0, h => by
    obtain ⟨r, e1, h1, rfl, h3⟩ := h d (List.mem_cons_self ..)
    have hw : wipeL (e.set i (some d)) [i] = e := by
      show (e.set i (some d)).set i none = e
      rw [List.set_set]
      apply List.ext_getElem?
      intro j
      by_cases hj : i = j
      · subst hj
        rw [List.getElem?_set_self (by rw [List.getElem?_eq_some_iff] at h0; exact h0.1), h0]
      · rw [List.getElem?_set_ne hj]
    obtain ⟨rs, e2, h4, rfl, h6, h7⟩ := w_lcS (el := el) (P := P) ds h0 fun d' hd => h d' (List.mem_cons_of_mem _ hd)
    refine ⟨r :: rs, e2, ?_, rfl, by simp only [List.length_cons, h6], ?_⟩
    · unfold lcS
      simp only [nmG, noX, R.bind_ok, yesT]
      rw [h1]
      simp only [noX, R.bind_ok]
      rw [hw, h4]
      rfl
    · intro j d' r' hd hr
      cases j with
      | zero =>
        simp only [List.getElem?_cons_zero, Option.some.injEq] at hd hr
        rw [← hd, ← hr]
        exact h3
      | succ j =>
        simp only [List.getElem?_cons_succ] at hd hr
        exact h7 j d' r' hd hr
theorem w_lcM {i : Nat} {el : MD D} {F : MD (List D)} {e : Lc} (P : List D → D → D → Prop) {Q : List D → Lc → Prop} (hi : i < e.length) (h : Wp F e fun ds e1 => e1 = e ∧ ds.length ≤ sizeLine ∧ (∀ d ∈ ds, Wp el (e.set i (some d)) fun r e2 => e2 = e.set i (some d) ∧ P ds d r) ∧
    ∀ rs : List D, rs.length = ds.length → (∀ (j : Nat) (d r : D), ds[j]? = some d → rs[j]? = some r → P ds d r) → Q rs e) : Wp (lcM [i] F (nmG i) yesT el) e Q := by
  obtain ⟨ds, e1, hF, rfl, hz, h, hq⟩ := h
  have e0 : ∀ d, (e1.set i none).set i (some d) = e1.set i (some d) := fun d => List.set_set ..
  obtain ⟨rs, e2, h1, rfl, h3, h4⟩ := w_lcS (el := el) (P := P ds) (e := e1.set i none) (i := i) ds (List.getElem?_set_self hi) fun d hd => by rw [e0]; exact h d hd
  refine ⟨rs, e1, ?_, hq rs h3 h4⟩
  unfold lcM
  rw [hF]
  simp only [R.bind_ok]
  rw [if_pos hz, wipe1, h1]
  simp only [R.bind_ok, keep1]
  rw [set_back hi]
/-! ### the operations -/
section
variable {i j : Int} {Q : D → Prop} {QB : Bool → Prop} {ds es : List D} {s z : Str} {b : Bool}
theorem o_add (h : Q (.int (i + j))) : Ok (addD (.int i) (.int j)) Q := ⟨_, rfl, h⟩
theorem o_addL (hz : ds.length + es.length ≤ sizeLine) (h : Q (.lst (ds ++ es))) : Ok (addD (.lst ds) (.lst es)) Q := ⟨_, if_pos hz, h⟩
theorem o_addT (hz : ds.length + es.length ≤ sizeLine) (h : Q (.tup (ds ++ es))) : Ok (addD (.tup ds) (.tup es)) Q := ⟨_, if_pos hz, h⟩
theorem o_addS (hz : s.length + z.length ≤ sizeLine) (h : Q (.str (s ++ z))) : Ok (addD (.str s) (.str z)) Q := ⟨_, if_pos hz, h⟩
theorem o_sub (h : Q (.int (i - j))) : Ok (subD (.int i) (.int j)) Q := ⟨_, rfl, h⟩
theorem o_mod (hz : j ≠ 0) (h : Q (.int (i.fmod j))) : Ok (modD (.int i) (.int j)) Q := ⟨_, if_pos hz, h⟩
theorem o_mul (hz : i.natAbs.log2 + j.natAbs.log2 < 1000000) (h : Q (.int (i * j))) : Ok (mulD (.int i) (.int j)) Q := ⟨_, by rw [mulD_int, if_pos hz], h⟩
theorem o_div (hz : (0 < j ∧ j.natAbs.log2 < 9000) ∨ (j ≠ 0 ∧ j.natAbs < 1073741824)) (h : Q (.int (i.fdiv j))) : Ok (fdivD (.int i) (.int j)) Q := ⟨_, by rw [fdivD_int, if_pos hz], h⟩
theorem o_pow (hz : 0 ≤ j ∧ j ≤ 1000000 ∧ i.natAbs < 2 ^ 64) (h : Q (.int (i ^ j.toNat))) : Ok (powD (.int i) (.int j)) Q := ⟨_, if_pos hz, h⟩
theorem o_modE (hj : 0 < j) (h : Q (.int (i % j))) : Ok (modD (.int i) (.int j)) Q := o_mod (by omega) (by rw [Int.fmod_eq_emod_of_nonneg _ (Int.le_of_lt hj)]; exact h)
theorem log2_lt' {n k : Nat} (h : n < 2 ^ k) (hk : 1 ≤ k) : n.log2 < k := by
  by_cases h0 : n = 0
  · subst h0
    simp
    omega
  · exact (Nat.log2_lt h0).mpr h
theorem log60 {i : Int} (hi : -1000000000000000000000000000000000000000000000000000000000000 ≤ i ∧ i ≤ 1000000000000000000000000000000000000000000000000000000000000) : i.natAbs.log2 < 250 := log2_lt' (Nat.lt_of_le_of_lt (show i.natAbs ≤ 1000000000000000000000000000000000000000000000000000000000000 by omega) (by decide)) (by decide)
theorem o_mulS (hi : -1000000000000000000000000000000000000000000000000000000000000 ≤ i ∧ i ≤ 1000000000000000000000000000000000000000000000000000000000000) (hj : -1000000000000000000000000000000000000000000000000000000000000 ≤ j ∧ j ≤ 1000000000000000000000000000000000000000000000000000000000000) (h : Q (.int (i * j))) : Ok (mulD (.int i) (.int j)) Q := o_mul (by
  have := log60 hi
  have := log60 hj
  omega) h
theorem o_divE (hj : 0 < j) (h2 : j < 1000000000000) (h : Q (.int (i / j))) : Ok (fdivD (.int i) (.int j)) Q := o_div (.inl ⟨hj, by
  have := log2_lt' (n := j.natAbs) (k := 64) (by omega) (by decide)
  omega⟩) (by rw [Int.fdiv_eq_ediv_of_nonneg _ (Int.le_of_lt hj)]; exact h)
theorem o_powP (hj : 0 ≤ j) (h2 : j ≤ 1000000) (h3 : i.natAbs < 2 ^ 64) (h : Q (.int (i ^ j.toNat))) : Ok (powD (.int i) (.int j)) Q := o_pow ⟨hj, h2, h3⟩ h
theorem o_eq' (h : Q (.bl (i == j))) : Ok (eqD (.int i) (.int j)) Q := ⟨_, rfl, h⟩
theorem o_ne' (h : Q (.bl (!(i == j)))) : Ok (neD (.int i) (.int j)) Q := ⟨_, rfl, h⟩
theorem o_gt (h : Q (.bl (decide (j < i)))) : Ok (gtD (.int i) (.int j)) Q := ⟨_, rfl, h⟩
theorem o_lt (h : Q (.bl (decide (i < j)))) : Ok (ltD (.int i) (.int j)) Q := ⟨_, rfl, h⟩
theorem o_ge (h : Q (.bl (decide (j ≤ i)))) : Ok (geD (.int i) (.int j)) Q := ⟨_, rfl, h⟩
theorem o_le (h : Q (.bl (decide (i ≤ j)))) : Ok (leD (.int i) (.int j)) Q := ⟨_, rfl, h⟩
theorem o_tru (h : QB b) : Ok (truR (.bl b)) QB := ⟨_, rfl, h⟩
theorem o_lenL (h : Q (.int ds.length)) : Ok (lenD [.lst ds]) Q := ⟨_, rfl, h⟩
theorem o_lenT (h : Q (.int ds.length)) : Ok (lenD [.tup ds]) Q := ⟨_, rfl, h⟩
theorem o_intB (h : Q (.int (if b then 1 else 0))) : Ok (intD [.bl b]) Q := by
  cases b
  · exact ⟨_, rfl, h⟩
  · exact ⟨_, rfl, h⟩
theorem ixN_nat {n k : Nat} (h : k < n) : ixN n (k : Int) = some k := by
  unfold ixN
  simp
  omega
theorem o_idxT {k : Nat} {d : D} (hk : ds[k]? = some d) (h : Q d) : Ok (idxD (.tup ds) (.int k)) Q := ⟨_, idx_tup hk, h⟩
theorem o_idxL {k : Nat} {d : D} (hk : ds[k]? = some d) (h : Q d) : Ok (idxD (.lst ds) (.int k)) Q := ⟨_, by
  have hl := (List.getElem?_eq_some_iff.mp hk).1
  simp [idxD, atI, ixN_nat hl, hk], h⟩
theorem o_tupleL (h : Q (.tup ds)) : Ok (tupleD [.lst ds]) Q := ⟨_, rfl, h⟩
theorem o_sliL {lo hi : Option Int} (h : Q (.lst (cutG ds lo hi))) : Ok (sliR lo hi (.lst ds)) Q := ⟨_, rfl, h⟩
theorem o_sliT {lo hi : Option Int} (h : Q (.tup (cutG ds lo hi))) : Ok (sliR lo hi (.tup ds)) Q := ⟨_, rfl, h⟩
end
theorem o_idxc {d k r : D} {Q : D → Prop} (e : idxD d k = .ok r) (h : Q r) : Ok (idxD d k) Q := ⟨r, e, h⟩
theorem o_isi {f : D → Option Bool} {d r : D} {Q : D → Prop} (e : isiD f d = .ok r) (h : Q r) : Ok (isiD f d) Q := ⟨r, e, h⟩
theorem g_len {ds : List D} {n : Nat} {hh : List D → Lc → R Lc} {e : Lc} {QG : Lc → Prop} (hn : ds.length = n) (h : Ok (hh ds e) QG) : Ok (tupG n hh (.tup ds) e) QG := g_tup hn h
end Dn

-- VC
local macro_rules | `(tactic| walk_at "get") => `(tactic| ((with_reducible first | apply Dn.get_c | apply Dn.get_l | apply Dn.w_vr | apply Dn.o_idxc | apply Dn.o_isi); (focus (exact rfl))))
local macro_rules | `(tactic| walk_at "sz") => `(tactic| ((with_reducible refine ⟨?sz, ?_⟩); (focus (exact Nat.le_of_ble_eq_true rfl))))
local macro_rules | `(tactic| walk_at "ar") => `(tactic| first
  | ((with_reducible refine Dn.o_modE ?ar ?_); (focus omega)) | ((with_reducible refine Dn.o_mulS ?ar ?ar2 ?_); (focus omega); (focus omega)) | ((with_reducible refine Dn.o_divE ?ar ?ar2 ?_); (focus omega); (focus omega)) | ((with_reducible refine Dn.o_powP ?ar ?ar2 ?ar3 ?_); (focus omega); (focus omega); (focus omega)) | (with_reducible refine Dn.nat_c ?_) | (with_reducible refine Dn.nat_l ?_))
local macro_rules | `(tactic| walk_at "v1") => `(tactic| with_reducible first
  | refine Dn.w_bin2 ?_ | refine Dn.w_cst ?_ | refine Dn.w_consA ?_ | refine Dn.w_nilA ?_ | refine Dn.w_calI ?_ | refine Dn.w_calM ?_ | refine Dn.w_callD ?_
  | refine Dn.w_setS ?_ | refine Dn.w_if ?_ | refine Dn.w_tst ?_ | refine Dn.w_tru ?_ | refine Dn.w_ret ?_ | refine Dn.w_nx ?_
  | refine Dn.bl_c ?_ | refine Dn.if_t ?_ | refine Dn.if_f ?_ | refine Dn.if_n ?_ | refine Dn.o_tru ?_
  | refine Dn.o_add ?_ | refine Dn.o_sub ?_ | refine Dn.o_eq' ?_ | refine Dn.o_ne' ?_ | refine Dn.o_gt ?_ | refine Dn.o_lt ?_ | refine Dn.o_ge ?_ | refine Dn.o_le ?_
  | refine Dn.w_asg ?_ | refine Dn.w_tupE ?_ | refine Dn.w_lstE ?_ | refine Dn.w_oix ?_ | refine Dn.g_nm ?_ | refine Dn.g_cons ?_ | refine Dn.g_nil ?_ | refine Dn.g_isL ?_ | refine Dn.g_sub ?_
  | refine Dn.w_andT ?_ | refine Dn.w_orT ?_ | refine Dn.w_notT ?_ | refine Dn.w_andV ?_ | refine Dn.w_orV ?_ | refine Dn.w_notV ?_ | refine Dn.w_un1 ?_ | refine Dn.w_ifV ?_
  | refine Dn.w_asL ?_ | refine Dn.w_seqM ?_ | refine Dn.sq_l ?_ | refine Dn.sq_t ?_ | refine Dn.w_setO ?_ | refine Dn.w_szA ?_ | refine Dn.w_exp ?_ | refine Dn.w_parS ?_ | refine Dn.w_parS1 ?_ | refine Dn.w_parS2 ?_
  | refine Dn.w_isL ?_ | refine Dn.w_appS ?_ | refine Dn.w_popK ?_ | refine Dn.w_insK ?_ | refine Dn.w_rngF1 ?_ | refine Dn.w_rng1M ?_ | refine Dn.w_callO ?_ | refine Dn.w_sliO ?_ | refine Dn.w_sliE ?_ | refine Dn.w_noP ?_ | refine Dn.w_soP ?_
  | refine Dn.w_addF ?_ | refine Dn.w_bin2L ?_ | refine Dn.w_bin2R ?_ | refine Dn.w_retL ?_ | refine Dn.w_retF ?_ | refine Dn.w_caIF ?_ | refine Dn.w_calF ?_ | refine Dn.w_calK ?_ | refine Dn.w_caN ?_ | refine Dn.w_frz ?_
  | refine Dn.one_c ?_ | refine Dn.lst_c ?_ | refine Dn.int_c ?_ | refine Dn.o_lenL ?_ | refine Dn.o_lenT ?_ | refine Dn.o_intB ?_ | refine Dn.o_tupleL ?_ | refine Dn.o_sliL ?_ | refine Dn.o_sliT ?_
  | refine Dn.q_rt ?_ | refine Dn.r_rt ?_ | refine Dn.t_rt ?_ | refine Dn.x_rt ?_
  | refine Dn.g_tup rfl ?_)
local macro_rules | `(tactic| walk_at "ds") => `(tactic| dsimp only [List.set_cons_zero, List.set_cons_succ])
local macro_rules | `(tactic| walk_at "nx") => `(tactic| (with_reducible refine Dn.q_nx ?_; try dsimp only [List.set_cons_zero, List.set_cons_succ]))
local macro_rules | `(tactic| walk_at "st") => `(tactic| ((try (with_reducible refine Dn.w_seq ?_)); repeat (first | walk_at "v1" | walk_at "get" | walk_at "sz" | walk_at "ar")))
local macro_rules | `(tactic| walk_at "vc") => `(tactic| repeat (first | walk_at "v1" | walk_at "get" | walk_at "nx" | walk_at "sz" | walk_at "ar" | (with_reducible refine Dn.w_seq ?_)))
namespace Dn
open PySem PySem.Spec PyProof.Rows L2
/-! ### data that may be compared -/
def PyOk (k : Nat) (d : D) : Prop := ∃ p : PyData, D.py d = some p ∧ p.canLay0 = true ∧ p.depth ≤ k
theorem pys_ok {k : Nat} : ∀ {ds : List D}, (∀ d ∈ ds, PyOk k d) → ∃ xs, pys ds = some xs ∧ PyData.canLayAll0 xs = true ∧ PyData.depthAll xs ≤ k ∧ xs.length = ds.length
  | [], _ => ⟨[], rfl, rfl, Nat.zero_le _, rfl⟩
  | d :: ds, h => by
    obtain ⟨p, h1, h2, h3⟩ := h d (List.mem_cons_self ..)
    obtain ⟨xs, h4, h5, h6, h7⟩ := pys_ok fun d' hd => h d' (List.mem_cons_of_mem _ hd)
    refine ⟨p :: xs, ?_, ?_, ?_, by simp [h7]⟩
    · unfold pys
      rw [h1, h4]
    · unfold PyData.canLayAll0
      rw [h2, h5]
      rfl
    · unfold PyData.depthAll
      omega
theorem PyOk.int {k : Nat} {i : Int} : PyOk k (.int i) := ⟨.int i, rfl, rfl, Nat.zero_le _⟩
theorem PyOk.tup {k : Nat} {ds : List D} (h : ∀ d ∈ ds, PyOk k d) : PyOk (k + 1) (.tup ds) := by
  obtain ⟨xs, h1, h2, h3, _⟩ := pys_ok h
  refine ⟨.tuple xs, ?_, ?_, ?_⟩
  · unfold D.py
    rw [h1]
  · unfold PyData.canLay0
    exact h2
  · unfold PyData.depth
    omega
theorem PyOk.lst {k : Nat} {ds : List D} (h : ∀ d ∈ ds, PyOk k d) : PyOk (k + 1) (.lst ds) := by
  obtain ⟨xs, h1, h2, h3, _⟩ := pys_ok h
  refine ⟨.list xs, ?_, ?_, ?_⟩
  · unfold D.py
    rw [h1]
  · unfold PyData.canLay0
    exact h2
  · unfold PyData.depth
    omega
theorem PyOk.shaped {k : Nat} {d : D} (h : PyOk k d) (hk : k ≤ 64) : ∃ p, D.py d = some p ∧ SeqAt.shaped p = true := by
  obtain ⟨p, h1, h2, h3⟩ := h
  exact ⟨p, h1, by unfold SeqAt.shaped; rw [h2, decide_eq_true (by omega)]; rfl⟩
/-- xs != [] -/
theorem o_neL0 {k : Nat} {ds : List D} {Q : D → Prop} (h : ∀ d ∈ ds, PyOk k d) (hk : k < 64) (q : Q (.bl (!ds.isEmpty))) : Ok (neD (.lst ds) (.lst [])) Q := by
  obtain ⟨xs, h1, h2, h3, h4⟩ := pys_ok h
  obtain ⟨p, h5, h6⟩ := (PyOk.lst h).shaped hk
  have e1 : D.py (.lst ds) = some (.list xs) := by unfold D.py; rw [h1]
  rw [h5] at e1
  cases e1
  refine ⟨_, ?_, q⟩
  unfold neD
  have : scalD (.lst ds) (.lst []) = none := rfl
  rw [this]
  simp only []
  rw [h5]
  have e2 : D.py (.lst []) = some (.list []) := rfl
  rw [e2]
  simp only []
  have e3 : SeqAt.shaped (.list []) = true := rfl
  rw [h6, e3]
  have e4 : PyData.eqv (.list xs) (.list []) = ds.isEmpty := by
    cases ds with
    | nil =>
      have : xs = [] := List.length_eq_zero_iff.mp h4
      subst this
      rfl
    | cons d ds =>
      cases xs with
      | nil => cases h4
      | cons x xs => rfl
  rw [e4]
  rfl
/-! ### texts of plain signs -/
def Asc (z : Str) : Prop := ∀ c ∈ z.cps.toList, c < 128
theorem Asc.ok {z : Str} (h : Asc z) : PyData.strOk z = true := by
  unfold PyData.strOk
  rw [Array.all_eq_true_iff_forall_mem]
  intro c hc
  exact decide_eq_true (Nat.lt_trans (h c (Array.mem_toList_iff.mpr hc)) (by decide))
theorem PyOk.str {k : Nat} {z : Str} (h : Asc z) : PyOk k (.str z) := ⟨.str z, rfl, h.ok, Nat.zero_le _⟩
theorem Asc.app {a b : Str} (h1 : Asc a) (h2 : Asc b) : Asc (a ++ b) := fun c hc => by
  have : (a ++ b).cps.toList = a.cps.toList ++ b.cps.toList := by
    show (a.cps ++ b.cps).toList = _
    rw [Array.toList_append]
  rw [this] at hc
  rcases List.mem_append.mp hc with hc | hc
  · exact h1 c hc
  · exact h2 c hc
theorem Asc.rev {a : Str} (h1 : Asc a) : Asc (revS a) := fun c hc => by
  unfold revS at hc
  rw [List.toList_toArray] at hc
  exact h1 c (List.mem_reverse.mp hc)
theorem len_app (a b : Str) : (a ++ b).length = a.length + b.length := by
  show (a.cps ++ b.cps).size = _
  rw [Array.size_append]
  rfl
theorem len_rev (a : Str) : (revS a).length = a.length := by
  show (a.cps.toList.reverse.toArray).size = a.cps.size
  rw [List.size_toArray, List.length_reverse, Array.length_toList]
theorem pys_strs : ∀ ws : List Str, pys (ws.map D.str) = some (ws.map PyData.str)
  | [] => rfl
  | w :: ws => by
    rw [List.map_cons, List.map_cons]
    unfold pys
    rw [pys_strs ws]
    rfl
theorem any_strs (z : Str) : ∀ ws : List Str, ((ws.map PyData.str).any fun q => PyData.eqv q (.str z)) = decide (z ∈ ws)
  | [] => rfl
  | w :: ws => by
    rw [List.map_cons, List.any_cons, any_strs z ws]
    show ((w == z) || decide (z ∈ ws)) = _
    by_cases h : z = w
    · subst h
      simp
    · have h2 : (w == z) = false := by
        rw [beq_eq_false_iff_ne]
        exact fun e => h e.symm
      rw [h2]
      simp [h]
theorem mem_strs {z : Str} {ws : List Str} (hz : Asc z) (hw : ∀ w ∈ ws, Asc w) : memD false (.str z) (.lst (ws.map D.str)) = .ok (.bl (decide (z ∈ ws))) := by
  obtain ⟨p, h1, h2⟩ := (PyOk.lst (k := 0) (ds := ws.map D.str) fun d hd => by
    obtain ⟨w, hw1, rfl⟩ := List.mem_map.mp hd
    exact PyOk.str (hw w hw1)).shaped (by decide)
  have e1 : D.py (.lst (ws.map D.str)) = some (.list (ws.map PyData.str)) := by
    unfold D.py
    rw [pys_strs]
  rw [h1] at e1
  cases e1
  obtain ⟨q, h3, h4⟩ := (PyOk.str (k := 0) hz).shaped (by decide)
  cases h3
  unfold memD
  have e2 : D.py (.str z) = some (.str z) := rfl
  rw [e2]
  simp only [pys_strs, h2, h4, any_strs, Bool.and_self, if_true, Bool.false_xor]
theorem upper_len : ∀ (l : List Nat), (∀ c ∈ l, c < 128) → (Txt.upper ⟨l.toArray⟩).length = l.length ∧ Asc (Txt.upper ⟨l.toArray⟩)
  | [], _ => ⟨rfl, fun c hc => by cases hc⟩
  | c :: l, h => by
    have e : (⟨(c :: l).toArray⟩ : Str) = (⟨#[c]⟩ : Str) ++ ⟨l.toArray⟩ := by
      show _ = (⟨#[c] ++ l.toArray⟩ : Str)
      congr 1
      rw [show #[c] = [c].toArray from rfl, List.append_toArray]
      rfl
    obtain ⟨h1, h2⟩ := upper_len l fun d hd => h d (List.mem_cons_of_mem _ hd)
    have hc := h c (List.mem_cons_self ..)
    rw [e, PySem.W.KOpn.upper_app, PySem.W.KOpn.upper_one hc, len_app, h1]
    refine ⟨?_, Asc.app (fun d hd => ?_) h2⟩
    · show 1 + l.length = l.length + 1
      omega
    · have : d = if 97 ≤ c ∧ c ≤ 122 then c - 32 else c := by simpa using hd
      rw [this]
      split <;> omega
theorem Asc.upper {z : Str} (h : Asc z) : Asc (Txt.upper z) := (upper_len z.cps.toList h).2
theorem len_upper {z : Str} (h : Asc z) : (Txt.upper z).length = z.length := (upper_len z.cps.toList h).1
end Dn

set_option maxHeartbeats 8000000
namespace Gk69
open PySem PySem.Spec PyProof.Rows L2 Dn
def top (i : Nat) : Stmt := PySem.Challenge.pw_endlessinn_k69_rooms_judged.main.body.getD i (.Pass ⟨0, 0, 0, 0⟩)
abbrev s_divisor : Stmt := top 5
abbrev N_divisor : List Str := ["one", "other"]
theorem sc_divisor : FnScope N_divisor ["one", "other"] (defScope s_divisor) := ⟨rfl, rfl, rfl, by decide +kernel, rfl, by decide +kernel, by decide +kernel⟩
abbrev s_common : Stmt := top 6
abbrev N_common : List Str := ["numbers", "found", "number"]
theorem sc_common : FnScope N_common ["numbers"] (defScope s_common) := ⟨rfl, rfl, rfl, by decide +kernel, rfl, by decide +kernel, by decide +kernel⟩
abbrev s_is_count : Stmt := top 4
abbrev N_is_count : List Str := ["thing", "least", "most"]
theorem sc_is_count : FnScope N_is_count ["thing", "least", "most"] (defScope s_is_count) := ⟨rfl, rfl, rfl, by decide +kernel, rfl, by decide +kernel, by decide +kernel⟩
abbrev s_is_row : Stmt := top 8
abbrev N_is_row : List Str := ["thing", "part"]
theorem sc_is_row : FnScope N_is_row ["thing"] (defScope s_is_row) := ⟨rfl, rfl, rfl, by decide +kernel, rfl, by decide +kernel, by decide +kernel⟩
abbrev s_rows_touch : Stmt := top 7
abbrev N_rows_touch : List Str := ["one", "step", "other", "pace"]
theorem sc_rows_touch : FnScope N_rows_touch ["one", "step", "other", "pace"] (defScope s_rows_touch) := ⟨rfl, rfl, rfl, by decide +kernel, rfl, by decide +kernel, by decide +kernel⟩
abbrev s_is_laying : Stmt := top 9
abbrev N_is_laying : List Str := ["thing", "pairs", "place", "row", "mate"]
theorem sc_is_laying : FnScope N_is_laying ["thing"] (defScope s_is_laying) := ⟨rfl, rfl, rfl, by decide +kernel, rfl, by decide +kernel, by decide +kernel⟩
abbrev s_claim_lies : Stmt := top 32
abbrev N_claim_lies : List Str := ["claim", "paper", "laying", "number", "room", "first", "step", "start", "stride", "part"]
theorem sc_claim_lies : FnScope N_claim_lies ["claim", "paper"] (defScope s_claim_lies) := ⟨rfl, rfl, rfl, by decide +kernel, rfl, by decide +kernel, by decide +kernel⟩
abbrev s_row_misses : Stmt := top 33
abbrev N_row_misses : List Str := ["row", "room", "word"]
theorem sc_row_misses : FnScope N_row_misses ["row", "room", "word"] (defScope s_row_misses) := ⟨rfl, rfl, rfl, by decide +kernel, rfl, by decide +kernel, by decide +kernel⟩
abbrev s_is_free : Stmt := top 34
abbrev N_is_free : List Str := ["claim", "paper", "laying", "room", "row", "word"]
theorem sc_is_free : FnScope N_is_free ["claim", "paper"] (defScope s_is_free) := ⟨rfl, rfl, rfl, by decide +kernel, rfl, by decide +kernel, by decide +kernel⟩
abbrev s_holds : Stmt := top 50
abbrev N_holds : List Str := ["claim", "paper", "parts", "look"]
theorem sc_holds : FnScope N_holds ["claim", "paper"] (defScope s_holds) := ⟨rfl, rfl, rfl, by decide +kernel, rfl, by decide +kernel, by decide +kernel⟩
abbrev s__law_taken : Stmt := top 64
abbrev N__law_taken : List Str := ["_law_say_so", "_law_sheet", "_law_due_here", "_law_told", "_law_one"]
theorem sc__law_taken : FnScope N__law_taken ["_law_say_so", "_law_sheet", "_law_due_here"] (defScope s__law_taken) := ⟨rfl, rfl, rfl, by decide +kernel, rfl, by decide +kernel, by decide +kernel⟩
abbrev s__law_by_hand : Stmt := top 72
abbrev N__law_by_hand : List Str := ["_law_distant", "_law_rows", "_law_apart"]
theorem sc__law_by_hand : FnScope N__law_by_hand [] (defScope s__law_by_hand) := ⟨rfl, rfl, rfl, by decide +kernel, rfl, by decide +kernel, by decide +kernel⟩
abbrev s__law_take : Stmt := top 54
abbrev N__law_take : List Str := ["_law_purse_here", "_law_many", "_law_state", "_law_taken_here"]
theorem sc__law_take : FnScope N__law_take ["_law_purse_here", "_law_many"] (defScope s__law_take) := ⟨rfl, rfl, rfl, by decide +kernel, rfl, by decide +kernel, by decide +kernel⟩
abbrev s__law_classes : Stmt := top 56
abbrev N__law_classes : List Str := ["_law_purse_here", "_law_many", "_law_found", "_law_turn", "_law_at", "_law_cut", "_law_rest", "_law_step", "_law_parts", "_law_k"]
theorem sc__law_classes : FnScope N__law_classes ["_law_purse_here", "_law_many"] (defScope s__law_classes) := ⟨rfl, rfl, rfl, by decide +kernel, rfl, by decide +kernel, by decide +kernel⟩
abbrev s__law_laying : Stmt := top 57
abbrev N__law_laying : List Str := ["_law_purse_here", "_law_great", "_law_numbers", "_law_rooms", "_law_rows", "_law_lift", "_law_rest", "_law_step", "_law_spot", "_law_stride", "_law_late", "_law_high", "_law_wide", "_law_found", "_law_row"]
theorem sc__law_laying : FnScope N__law_laying ["_law_purse_here", "_law_great"] (defScope s__law_laying) := ⟨rfl, rfl, rfl, by decide +kernel, rfl, by decide +kernel, by decide +kernel⟩
abbrev s__law_why : Stmt := top 68
abbrev N__law_why : List Str := ["_law_row", "_law_spot"]
theorem sc__law_why : FnScope N__law_why ["_law_row", "_law_spot"] (defScope s__law_why) := ⟨rfl, rfl, rfl, by decide +kernel, rfl, by decide +kernel, by decide +kernel⟩
abbrev s__law_claims : Stmt := top 70
abbrev N__law_claims : List Str := ["_law_purse_here", "_law_rows", "_law_found", "_law_spots", "_law_k", "_law_turn", "_law_figure", "_law_spot", "_law_words", "_law_others", "_law_at", "_law_row"]
theorem sc__law_claims : FnScope N__law_claims ["_law_purse_here", "_law_rows"] (defScope s__law_claims) := ⟨rfl, rfl, rfl, by decide +kernel, rfl, by decide +kernel, by decide +kernel⟩
abbrev s__law_odd : Stmt := top 62
abbrev N__law_odd : List Str := ["_law_purse_here", "_law_some"]
theorem sc__law_odd : FnScope N__law_odd ["_law_purse_here"] (defScope s__law_odd) := ⟨rfl, rfl, rfl, by decide +kernel, rfl, by decide +kernel, by decide +kernel⟩
abbrev s__law_bent : Stmt := top 63
abbrev N__law_bent : List Str := ["_law_purse_here", "_law_thing", "_law_at", "_law_kind"]
theorem sc__law_bent : FnScope N__law_bent ["_law_purse_here", "_law_thing"] (defScope s__law_bent) := ⟨rfl, rfl, rfl, by decide +kernel, rfl, by decide +kernel, by decide +kernel⟩
abbrev s__law_spoilt : Stmt := top 65
abbrev N__law_spoilt : List Str := ["_law_purse_here", "_law_say_so", "_law_sheet", "_law_turn", "_law_at"]
theorem sc__law_spoilt : FnScope N__law_spoilt ["_law_purse_here", "_law_say_so", "_law_sheet"] (defScope s__law_spoilt) := ⟨rfl, rfl, rfl, by decide +kernel, rfl, by decide +kernel, by decide +kernel⟩
abbrev s__law_whole : Stmt := top 58
abbrev N__law_whole : List Str := ["_law_thing"]
theorem sc__law_whole : FnScope N__law_whole ["_law_thing"] (defScope s__law_whole) := ⟨rfl, rfl, rfl, by decide +kernel, rfl, by decide +kernel, by decide +kernel⟩
abbrev s__law_is_row : Stmt := top 59
abbrev N__law_is_row : List Str := ["_law_thing", "_law_part"]
theorem sc__law_is_row : FnScope N__law_is_row ["_law_thing"] (defScope s__law_is_row) := ⟨rfl, rfl, rfl, by decide +kernel, rfl, by decide +kernel, by decide +kernel⟩
abbrev s__law_shared : Stmt := top 55
abbrev N__law_shared : List Str := ["_law_one", "_law_other"]
theorem sc__law_shared : FnScope N__law_shared ["_law_one", "_law_other"] (defScope s__law_shared) := ⟨rfl, rfl, rfl, by decide +kernel, rfl, by decide +kernel, by decide +kernel⟩
abbrev s__law_meets : Stmt := top 60
abbrev N__law_meets : List Str := ["_law_begin", "_law_step", "_law_start", "_law_pace"]
theorem sc__law_meets : FnScope N__law_meets ["_law_begin", "_law_step", "_law_start", "_law_pace"] (defScope s__law_meets) := ⟨rfl, rfl, rfl, by decide +kernel, rfl, by decide +kernel, by decide +kernel⟩
abbrev s__law_fault : Stmt := top 61
abbrev N__law_fault : List Str := ["_law_thing", "_law_whole_here", "_law_place", "_law_row", "_law_mate"]
theorem sc__law_fault : FnScope N__law_fault ["_law_thing"] (defScope s__law_fault) := ⟨rfl, rfl, rfl, by decide +kernel, rfl, by decide +kernel, by decide +kernel⟩
abbrev s__law_lies : Stmt := top 66
abbrev N__law_lies : List Str := ["_law_say_so", "_law_sheet", "_law_word", "_law_rows", "_law_figure", "_law_spot", "_law_row", "_law_one"]
theorem sc__law_lies : FnScope N__law_lies ["_law_say_so", "_law_sheet"] (defScope s__law_lies) := ⟨rfl, rfl, rfl, by decide +kernel, rfl, by decide +kernel, by decide +kernel⟩
abbrev s__law_free : Stmt := top 67
abbrev N__law_free : List Str := ["_law_say_so", "_law_sheet", "_law_word", "_law_rows", "_law_spot", "_law_k"]
theorem sc__law_free : FnScope N__law_free ["_law_say_so", "_law_sheet"] (defScope s__law_free) := ⟨rfl, rfl, rfl, by decide +kernel, rfl, by decide +kernel, by decide +kernel⟩
abbrev s__law_due : Stmt := top 69
abbrev N__law_due : List Str := ["_law_say_so", "_law_sheet"]
theorem sc__law_due : FnScope N__law_due ["_law_say_so", "_law_sheet"] (defScope s__law_due) := ⟨rfl, rfl, rfl, by decide +kernel, rfl, by decide +kernel, by decide +kernel⟩
abbrev s__law_right : Stmt := top 71
abbrev N__law_right : List Str := ["_law_purse_here", "_law_rows", "_law_say_so", "_law_sheet", "_law_bent_here", "_law_leaf"]
theorem sc__law_right : FnScope N__law_right ["_law_purse_here"] (defScope s__law_right) := ⟨rfl, rfl, rfl, by decide +kernel, rfl, by decide +kernel, by decide +kernel⟩
abbrev s__law_purse : Stmt := top 53
abbrev N__law_purse : List Str := ["_law_cell_here", "_law_digits"]
theorem sc__law_purse : FnScope N__law_purse ["_law_cell_here"] (defScope s__law_purse) := ⟨rfl, rfl, rfl, by decide +kernel, rfl, by decide +kernel, by decide +kernel⟩
abbrev s__law_cell : Stmt := top 52
abbrev N__law_cell : List Str := ["_law_script", "_law_k", "_law_state", "_law_cell_here"]
theorem sc__law_cell : FnScope N__law_cell ["_law_script", "_law_k"] (defScope s__law_cell) := ⟨rfl, rfl, rfl, by decide +kernel, rfl, by decide +kernel, by decide +kernel⟩
abbrev s_law : Stmt := top 73
abbrev N_law : List Str := ["_law_script", "_law_k"]
theorem sc_law : FnScope N_law ["_law_script"] (defScope s_law) := ⟨rfl, rfl, rfl, by decide +kernel, rfl, by decide +kernel, by decide +kernel⟩
/-! ### the functions, as plain functions over data -/
def tbl_CLAIMS : List (Str × Option D) := [("lies", some (.tup [.int 4, .fn 0])), ("free", some (.tup [.int 3, .fn 1]))]
def m_divisor : MS := (seqS (whS (tst (bin2 neD (vr 1) (cst (.int 0))))
  (parS 0 1 (vr 1) (bin2 modD (vr 0) (vr 1))) 1000000)
  (retS (callD absD (consA (vr 0) nilA))))
def F_divisor : List D → R D := runB 2 false m_divisor
def m_common : MS := (seqS (setS 1 (cst (.int 1)))
  (seqS (forM (seqM (vr 0)) (nmG 2)
  (setS 1 (bin2 fdivD (bin2 mulD (vr 1) (vr 2)) (calM F_divisor [] (consA (vr 1) (consA (vr 2) nilA))))))
  (retS (vr 1))))
def F_common : List D → R D := runB 3 false m_common
def m_is_count : MS := (seqS (ifS (orT (tru (un1 (isiD isBool) (vr 0))) (notT (tru (un1 (isiD isInt) (vr 0)))))
  (retS (cst (.bl false)))
  nxS)
  (retS (andV (bin2 geD (vr 0) (vr 1)) (orV (bin2 isN (vr 2) (cst .non)) (bin2 leD (vr 0) (vr 2))))))
def F_is_count : List D → R D := runB 3 false m_is_count
def m_is_row : MS := (seqS (ifS (orT (notT (tru (un1 (isiD isTup) (vr 0)))) (orT (tst (bin2 neD (callD lenD (consA (vr 0) nilA)) (cst (.int 4)))) (notT (tru (callD allD (consA (asL (lcM [1] (seqM (vr 0)) (nmG 1) yesT (calM F_is_count [.int 0, .non] (consA (vr 1) nilA)))) nilA))))))
  (retS (cst (.bl false)))
  nxS)
  (retS (andV (bin2 eqD (bin2 gtD (bin2 idxD (vr 0) (cst (.int 1))) (cst (.int 0))) (bin2 gtD (bin2 idxD (vr 0) (cst (.int 3))) (cst (.int 0)))) (bin2 leD (bin2 idxD (vr 0) (cst (.int 1))) (cst (.int 240))))))
def F_is_row : List D → R D := runB 2 false m_is_row
def m_rows_touch (F0 : List D → R D) : MS := (seqS (ifS (andT (tst (bin2 eqD (vr 1) (cst (.int 0)))) (tst (bin2 eqD (vr 3) (cst (.int 0)))))
  (retS (bin2 eqD (vr 0) (vr 2)))
  nxS)
  (seqS (ifS (tst (bin2 eqD (vr 1) (cst (.int 0))))
  (retS (andV (bin2 geD (vr 0) (vr 2)) (bin2 eqD (bin2 modD (bin2 subD (vr 0) (vr 2)) (vr 3)) (cst (.int 0)))))
  nxS)
  (seqS (ifS (tst (bin2 eqD (vr 3) (cst (.int 0))))
  (retS (calM F0 [] (consA (vr 2) (consA (vr 3) (consA (vr 0) (consA (vr 1) nilA))))))
  nxS)
  (retS (bin2 eqD (bin2 modD (bin2 subD (vr 0) (vr 2)) (calM F_divisor [] (consA (vr 1) (consA (vr 3) nilA)))) (cst (.int 0)))))))
def F_rows_touch : Nat → List D → R D
  | 0, _ => .bad
  | k + 1, ds => runB 4 false (m_rows_touch (F_rows_touch k)) ds
def m_is_laying : MS := (seqS (ifS (orT (notT (tru (un1 (isiD isTup) (vr 0)))) (orT (tst (bin2 gtD (callD lenD (consA (vr 0) nilA)) (cst (.int 60)))) (notT (tru (callD allD (consA (asL (lcM [3] (seqM (vr 0)) (nmG 3) yesT (calM F_is_row [] (consA (vr 3) nilA)))) nilA))))))
  (retS (cst (.bl false)))
  nxS)
  (seqS (ifS (tst (bin2 gtD (calM F_common [] (consA (asL (lcM [3] (seqM (vr 0)) (nmG 3) (tst (bin2 gtD (bin2 idxD (vr 3) (cst (.int 1))) (cst (.int 0)))) (bin2 idxD (vr 3) (cst (.int 1))))) nilA)) (cst (.int 240))))
  (retS (cst (.bl false)))
  nxS)
  (seqS (setO 1 (lcM2 [2, 3, 4] [4] (enumM (consA (vr 0) nilA)) (tupG 2 (consG (nmG 2) (consG (nmG 3) nilG))) yesT (seqM (sliE (vr 0) noP (soP (vr 2)))) (nmG 4) yesT (tupE (consA (vr 3) (consA (vr 4) nilA)))))
  (retS (notV (callD anyD (consA (asL (lcM [3, 4] (seqM (vr 1)) (tupG 2 (consG (nmG 3) (consG (nmG 4) nilG))) yesT (orV (calM (F_rows_touch 2) [] (consA (bin2 idxD (vr 3) (cst (.int 0))) (consA (bin2 idxD (vr 3) (cst (.int 1))) (consA (bin2 idxD (vr 4) (cst (.int 0))) (consA (bin2 idxD (vr 4) (cst (.int 1))) nilA))))) (calM (F_rows_touch 2) [] (consA (bin2 idxD (vr 3) (cst (.int 2))) (consA (bin2 idxD (vr 3) (cst (.int 3))) (consA (bin2 idxD (vr 4) (cst (.int 2))) (consA (bin2 idxD (vr 4) (cst (.int 3))) nilA)))))))) nilA)))))))
def F_is_laying : List D → R D := runB 5 false m_is_laying
def m_claim_lies : MS := (seqS (asgS (vr 0) (tupG 3 (consG (nmG 2) (consG (nmG 3) (consG (nmG 4) nilG)))))
  (seqS (ifS (orT (notT (tru (calM F_is_laying [] (consA (vr 2) nilA)))) (orT (notT (tru (calM F_is_count [.int 0, .non] (consA (vr 3) nilA)))) (notT (tru (calM F_is_count [.int 0, .non] (consA (vr 4) nilA))))))
  (retS (cst (.bl false)))
  nxS)
  (seqS (ifS (orT (notT (tru (un1 (isiD isTup) (vr 1)))) (orT (tst (bin2 neD (callD lenD (consA (vr 1) nilA)) (cst (.int 2)))) (notT (tru (callD allD (consA (asL (lcM [9] (seqM (vr 1)) (nmG 9) yesT (calM F_is_count [.int 0, .non] (consA (vr 9) nilA)))) nilA))))))
  (retS (cst (.bl false)))
  nxS)
  (seqS (ifS (tst (bin2 geD (bin2 idxD (vr 1) (cst (.int 0))) (callD lenD (consA (vr 2) nilA))))
  (retS (cst (.bl false)))
  nxS)
  (seqS (asgS (bin2 idxD (vr 2) (bin2 idxD (vr 1) (cst (.int 0)))) (tupG 4 (consG (nmG 5) (consG (nmG 6) (consG (nmG 7) (consG (nmG 8) nilG))))))
  (seqS (ifS (andT (tst (bin2 eqD (vr 6) (cst (.int 0)))) (tst (bin2 neD (bin2 idxD (vr 1) (cst (.int 1))) (cst (.int 0)))))
  (retS (cst (.bl false)))
  nxS)
  (retS (andV (bin2 eqD (bin2 addD (vr 5) (bin2 mulD (vr 6) (bin2 idxD (vr 1) (cst (.int 1))))) (vr 3)) (bin2 eqD (bin2 addD (vr 7) (bin2 mulD (vr 8) (bin2 idxD (vr 1) (cst (.int 1))))) (vr 4))))))))))
def F_claim_lies : List D → R D := runB 10 false m_claim_lies
def m_row_misses : MS := (seqS (ifS (tst (bin2 eqD (bin2 idxD (vr 0) (cst (.int 3))) (cst (.int 0))))
  (retS (andV (bin2 eqD (vr 2) (cst (.str "single"))) (bin2 neD (bin2 idxD (vr 0) (cst (.int 2))) (vr 1))))
  nxS)
  (retS (orV (andV (bin2 eqD (vr 2) (cst (.str "ahead"))) (bin2 gtD (bin2 idxD (vr 0) (cst (.int 2))) (vr 1))) (andV (bin2 eqD (vr 2) (cst (.str "rest"))) (bin2 neD (bin2 modD (bin2 subD (vr 1) (bin2 idxD (vr 0) (cst (.int 2)))) (bin2 idxD (vr 0) (cst (.int 3)))) (cst (.int 0)))))))
def F_row_misses : List D → R D := runB 3 false m_row_misses
def m_is_free : MS := (seqS (asgS (vr 0) (tupG 2 (consG (nmG 2) (consG (nmG 3) nilG))))
  (seqS (ifS (orT (notT (tru (calM F_is_laying [] (consA (vr 2) nilA)))) (orT (notT (tru (calM F_is_count [.int 0, .non] (consA (vr 3) nilA)))) (orT (notT (tru (un1 (isiD isTup) (vr 1)))) (tst (bin2 neD (callD lenD (consA (vr 1) nilA)) (callD lenD (consA (vr 2) nilA)))))))
  (retS (cst (.bl false)))
  nxS)
  (retS (callD allD (consA (asL (lcM [4, 5] (zipM (consA (vr 2) (consA (vr 1) nilA))) (tupG 2 (consG (nmG 4) (consG (nmG 5) nilG))) yesT (andV (un1 (isiD isStr) (vr 5)) (calM F_row_misses [] (consA (vr 4) (consA (vr 3) (consA (vr 5) nilA))))))) nilA)))))
def F_is_free : List D → R D := runB 6 false m_is_free
def T_holds : Nat → Option (List D → R D)
  | 0 => some F_claim_lies
  | 1 => some F_is_free
  | _ => none
def m_holds : MS := (seqS (ifS (orT (notT (tru (un1 (isiD isTup) (vr 0)))) (orT (notT (tru (vr 0))) (orT (notT (tru (un1 (isiD isStr) (bin2 idxD (vr 0) (cst (.int 0)))))) (tst (un1 (inKt true tbl_CLAIMS) (bin2 idxD (vr 0) (cst (.int 0))))))))
  (retS (cst (.bl false)))
  nxS)
  (seqS (asgS (un1 (getKt tbl_CLAIMS) (bin2 idxD (vr 0) (cst (.int 0)))) (tupG 2 (consG (nmG 2) (consG (nmG 3) nilG))))
  (retS (andV (bin2 eqD (callD lenD (consA (vr 0) nilA)) (vr 2)) (calA T_holds 3 (consA (sliE (vr 0) (soP (cst (.int 1))) noP) (consA (vr 1) nilA)))))))
def F_holds : List D → R D := runB 4 false m_holds
def m__law_taken : MS := (seqS (setS 3 (lstE (consA (calM F_holds [] (consA (vr 0) (consA (vr 1) nilA))) (consA (calK F_holds (fun ds es => ds ++ es.reverse) nilA (consA (vr 1) (consA (vr 0) nilA))) nilA))))
  (retS (callD allD (consA (asL (lcM [4] (seqM (vr 3)) (nmG 4) yesT (andV (un1 (isiD isBool) (vr 4)) (bin2 eqD (vr 4) (vr 2))))) nilA))))
def F__law_taken : List D → R D := runB 5 false m__law_taken
def m__law_by_hand : MS := (seqS (setS 0 (bin2 powD (cst (.int 10)) (cst (.int 15))))
  (seqS (setS 1 (tupE (consA (tupE (consA (cst (.int 0)) (consA (cst (.int 2)) (consA (cst (.int 0)) (consA (bin2 addD (vr 0) (cst (.int 1))) nilA))))) (consA (tupE (consA (cst (.int 1)) (consA (cst (.int 2)) (consA (bin2 subD (vr 0) (cst (.int 1))) (consA (vr 0) nilA))))) nilA))))
  (seqS (setS 2 (tupE (consA (tupE (consA (cst (.int 0)) (consA (cst (.int 2)) (consA (cst (.int 0)) (consA (bin2 mulD (cst (.int 2)) (vr 0)) nilA))))) (consA (tupE (consA (cst (.int 1)) (consA (cst (.int 2)) (consA (cst (.int 1)) (consA (bin2 addD (bin2 mulD (cst (.int 2)) (vr 0)) (cst (.int 2))) nilA))))) nilA))))
  (retS (andV (calM F__law_taken [] (consA (tupE (consA (cst (.str "lies")) (consA (vr 1) (consA (cst (.int 0)) (consA (cst (.int 0)) nilA))))) (consA (tupE (consA (cst (.int 0)) (consA (cst (.int 0)) nilA))) (consA (cst (.bl false)) nilA)))) (calM F__law_taken [] (consA (tupE (consA (cst (.str "lies")) (consA (vr 2) (consA (cst (.int 0)) (consA (cst (.int 0)) nilA))))) (consA (tupE (consA (cst (.int 0)) (consA (cst (.int 0)) nilA))) (consA (cst (.bl true)) nilA)))))))))
def F__law_by_hand : List D → R D := runB 3 false m__law_by_hand
def m__law_take : MS := (seqS (asgS (bin2 addD (oix 0 (cst (.int 2))) (cst (.int 1))) (isLG 0 (subG 0 (cst (.int 2)))))
  (seqS (setS 2 (oix 0 (cst (.int 0))))
  (seqS (asgS (bin2 modD (bin2 addD (bin2 addD (bin2 mulD (vr 2) (bin2 addD (bin2 modD (vr 2) (cst (.int 50021))) (cst (.int 20011)))) (bin2 mulD (cst (.int 60013)) (oix 0 (cst (.int 2))))) (cst (.int 5))) (cst (.int 1000000021))) (isLG 0 (subG 0 (cst (.int 0)))))
  (seqS (ifS (tst (bin2 gtD (oix 0 (cst (.int 1))) (cst (.int 0))))
  (seqS (setS 3 (bin2 modD (oix 0 (cst (.int 1))) (vr 1)))
  (seqS (asgS (bin2 fdivD (oix 0 (cst (.int 1))) (vr 1)) (isLG 0 (subG 0 (cst (.int 1)))))
  (retS (vr 3))))
  nxS)
  (retS (bin2 modD (bin2 fdivD (oix 0 (cst (.int 0))) (cst (.int 32))) (vr 1)))))))
def F__law_take : D → List D → R (D × D) := runI 4 false m__law_take
def m__law_classes : MS := (seqS (setO 2 (szA (consA (tupE (consA (cst (.int 0)) (consA (cst (.int 1)) nilA))) nilA)))
  (seqS (forM (rng1M (consA (vr 1) nilA)) (nmG 3)
  (seqS (asgS (tupE (consA (calI F__law_take 0 (consA (callO lenD 2) nilA)) (consA (bin2 addD (cst (.int 2)) (calI F__law_take 0 (consA (cst (.int 2)) nilA))) nilA))) (tupG 2 (consG (nmG 4) (consG (nmG 5) nilG))))
  (seqS (asgS (oix 2 (vr 4)) (tupG 2 (consG (nmG 6) (consG (nmG 7) nilG))))
  (ifS (tst (bin2 eqD (bin2 modD (cst (.int 24)) (bin2 mulD (vr 7) (vr 5))) (cst (.int 0))))
  (seqS (setO 8 (lcM [9] (rng1M (consA (vr 5) nilA)) (nmG 9) yesT (tupE (consA (bin2 addD (vr 6) (bin2 mulD (vr 7) (vr 9))) (consA (bin2 mulD (vr 7) (vr 5)) nilA)))))
  (setO 2 (addF (bin2 addD (sliO 2 noP (soP (vr 4))) (sliO 2 (soP (bin2 addD (vr 4) (cst (.int 1)))) noP)) (vr 8))))
  nxS))))
  (retL 2)))
def F__law_classes : D → List D → R (D × D) := runI 10 true m__law_classes
def m__law_laying : MS := (seqS (parS2 2 3 (calI F__law_classes 0 (consA (calI F__law_take 0 (consA (cst (.int 5)) nilA)) nilA)) (caIF F__law_classes 0 (consA (calI F__law_take 0 (consA (cst (.int 5)) nilA)) nilA)))
  (seqS (parS1 4 5 (szA nilA) (bin2 idxD (lstE (consA (cst (.int 0)) (consA (bin2 powD (cst (.int 10)) (cst (.int 30))) nilA))) (callD intD (consA (andV (vr 1) (bin2 eqD (calI F__law_take 0 (consA (cst (.int 3)) nilA)) (cst (.int 0)))) nilA))))
  (seqS (forM (seqM (vr 2)) (tupG 2 (consG (nmG 6) (consG (nmG 7) nilG)))
  (ifS (andT (tst (bin2L neD 3 (lstE nilA))) (tst (bin2 gtD (calI F__law_take 0 (consA (cst (.int 6)) nilA)) (cst (.int 0)))))
  (seqS (asgS (popK 3 (calI F__law_take 0 (consA (callO lenD 3) nilA))) (tupG 2 (consG (nmG 8) (consG (nmG 9) nilG))))
  (seqS (parS 10 11 (calI F__law_take 0 (consA (cst (.int 3)) nilA)) (calI F__law_take 0 (consA (cst (.int 3)) nilA)))
  (seqS (setS 12 (bin2 idxD (lstE (consA (cst (.int 1)) (consA (bin2 powD (cst (.int 10)) (cst (.int 20))) nilA))) (callD intD (consA (andV (vr 1) (bin2 eqD (calI F__law_take 0 (consA (cst (.int 4)) nilA)) (cst (.int 0)))) nilA))))
  (seqS (isL 4 (appS 4 (tupE (consA (bin2 addD (vr 6) (bin2 mulD (vr 7) (vr 10))) (consA (vr 7) (consA (bin2 addD (vr 8) (bin2 mulD (vr 9) (bin2 addD (vr 11) (vr 5)))) (consA (bin2 mulD (vr 9) (vr 12)) nilA)))))))
  (ifS (andT (tst (bin2 gtD (vr 10) (cst (.int 0)))) (andT (tst (bin2 gtD (vr 11) (cst (.int 0)))) (tst (bin2 eqD (calI F__law_take 0 (consA (cst (.int 2)) nilA)) (cst (.int 0))))))
  (isL 4 (appS 4 (tupE (consA (bin2 addD (vr 6) (bin2 mulD (vr 7) (bin2 subD (vr 10) (cst (.int 1))))) (consA (cst (.int 0)) (consA (bin2 addD (vr 8) (bin2 mulD (vr 9) (bin2 subD (bin2 subD (vr 11) (cst (.int 1))) (calI F__law_take 0 (consA (vr 11) nilA))))) (consA (cst (.int 0)) nilA)))))))
  nxS)))))
  nxS))
  (frzS (seqS (setO 13 (szA nilA))
  (seqS (forM (seqM (vr 4)) (nmG 14)
  (expS (insK 13 (calI F__law_take 0 (consA (bin2 addD (callO lenD 13) (cst (.int 1))) nilA)) (vr 14))))
  (frzS (retS (callD tupleD (consA (vr 13) nilA))))))))))
def F__law_laying : D → List D → R (D × D) := runI 15 false m__law_laying
def m__law_why : MS := (seqS (ifS (tst (bin2 eqD (bin2 idxD (vr 0) (cst (.int 3))) (cst (.int 0))))
  (retS (bin2 mulD (lstE (consA (cst (.str "single")) nilA)) (callD intD (consA (bin2 neD (bin2 idxD (vr 0) (cst (.int 2))) (vr 1)) nilA))))
  nxS)
  (retS (bin2 addD (bin2 mulD (lstE (consA (cst (.str "ahead")) nilA)) (callD intD (consA (bin2 gtD (bin2 idxD (vr 0) (cst (.int 2))) (vr 1)) nilA))) (bin2 mulD (lstE (consA (cst (.str "rest")) nilA)) (callD intD (consA (bin2 neD (bin2 modD (bin2 subD (vr 1) (bin2 idxD (vr 0) (cst (.int 2)))) (bin2 idxD (vr 0) (cst (.int 3)))) (cst (.int 0))) nilA))))))
def F__law_why : List D → R D := runB 2 false m__law_why
def m__law_claims : MS := (seqS (parS1 2 3 (szA nilA) (bin2 addD (asL (rngF1 (cst (.int 6)))) (lstE (consA (calI F__law_take 0 (consA (cst (.int 60)) nilA)) (consA (bin2 addD (bin2 powD (cst (.int 10)) (cst (.int 30))) (calI F__law_take 0 (consA (cst (.int 60)) nilA))) nilA)))))
  (seqS (forM (rng1M (consA (callD lenD (consA (vr 1) nilA)) nilA)) (nmG 4)
  (seqS (setS 5 (bin2 mulD (bin2 idxD (lstE (consA (cst (.int 0)) (consA (cst (.int 1)) (consA (calI F__law_take 0 (consA (cst (.int 9)) nilA)) (consA (bin2 powD (cst (.int 10)) (cst (.int 20))) nilA))))) (calI F__law_take 0 (consA (cst (.int 4)) nilA))) (callD intD (consA (bin2 gtD (bin2 idxD (bin2 idxD (vr 1) (vr 4)) (cst (.int 1))) (cst (.int 0))) nilA))))
  (seqS (setS 6 (bin2 addD (bin2 idxD (bin2 idxD (vr 1) (vr 4)) (cst (.int 0))) (bin2 mulD (bin2 idxD (bin2 idxD (vr 1) (vr 4)) (cst (.int 1))) (vr 5))))
  (seqS (setS 7 (bin2 addD (bin2 idxD (bin2 idxD (vr 1) (vr 4)) (cst (.int 2))) (bin2 mulD (bin2 idxD (bin2 idxD (vr 1) (vr 4)) (cst (.int 3))) (vr 5))))
  (seqS (setS 3 (bin2 addD (vr 3) (lstE (consA (vr 7) (consA (bin2 addD (vr 7) (cst (.int 1))) (consA (callD maxD (consA (cst (.int 0)) (consA (bin2 subD (vr 7) (cst (.int 1))) nilA))) nilA))))))
  (seqS (isL 2 (appS 2 (tupE (consA (tupE (consA (cst (.str "lies")) (consA (vr 1) (consA (vr 6) (consA (vr 7) nilA))))) (consA (tupE (consA (vr 4) (consA (vr 5) nilA))) nilA)))))
  (seqS (isL 2 (appS 2 (tupE (consA (tupE (consA (cst (.str "lies")) (consA (vr 1) (consA (vr 6) (consA (vr 7) nilA))))) (consA (tupE (consA (calI F__law_take 0 (consA (bin2 addD (callD lenD (consA (vr 1) nilA)) (cst (.int 1))) nilA)) (consA (vr 5) nilA))) nilA)))))
  (seqS (isL 2 (appS 2 (tupE (consA (tupE (consA (cst (.str "lies")) (consA (vr 1) (consA (vr 6) (consA (vr 7) nilA))))) (consA (tupE (consA (vr 4) (consA (bin2 addD (vr 5) (cst (.int 1))) nilA))) nilA)))))
  (seqS (isL 2 (appS 2 (tupE (consA (tupE (consA (cst (.str "lies")) (consA (vr 1) (consA (bin2 addD (vr 6) (cst (.int 1))) (consA (vr 7) nilA))))) (consA (tupE (consA (vr 4) (consA (vr 5) nilA))) nilA)))))
  (isL 2 (appS 2 (tupE (consA (tupE (consA (cst (.str "lies")) (consA (vr 1) (consA (vr 6) (consA (bin2 addD (vr 7) (cst (.int 1))) nilA))))) (consA (tupE (consA (vr 4) (consA (vr 5) nilA))) nilA))))))))))))))
  (seqS (forM (seqM (vr 3)) (nmG 7)
  (seqS (setO 8 (lcM [11] (seqM (vr 1)) (nmG 11) yesT (bin2 idxD (bin2 addD (calM F__law_why [] (consA (vr 11) (consA (vr 7) nilA))) (lstE (consA (cst (.str "rest")) nilA))) (cst (.int 0)))))
  (seqS (setO 9 (lcM [11] (seqM (vr 1)) (nmG 11) yesT (bin2 idxD (bin2 addD (lstE (consA (cst (.str "single")) nilA)) (calM F__law_why [] (consA (vr 11) (consA (vr 7) nilA)))) (un1 negD (cst (.int 1))))))
  (seqS (isL 2 (appS 2 (tupE (consA (tupE (consA (cst (.str "free")) (consA (vr 1) (consA (vr 7) nilA)))) (consA (callO tupleD 8) nilA)))))
  (seqS (isL 2 (appS 2 (tupE (consA (tupE (consA (cst (.str "free")) (consA (vr 1) (consA (vr 7) nilA)))) (consA (callD tupleD (consA (vr 9) nilA)) nilA)))))
  (seqS (ifS (tst (bin2L neD 8 (lstE nilA)))
  (seqS (setS 10 (calI F__law_take 0 (consA (callO lenD 8) nilA)))
  (asgS (bin2 idxD (lstE (consA (cst (.str "single")) (consA (cst (.str "ahead")) (consA (cst (.str "rest")) nilA)))) (calI F__law_take 0 (consA (cst (.int 3)) nilA))) (isLG 8 (subG 8 (vr 10)))))
  nxS)
  (isL 2 (appS 2 (tupE (consA (tupE (consA (cst (.str "free")) (consA (vr 1) (consA (vr 7) nilA)))) (consA (callO tupleD 8) nilA)))))))))))
  (frzS (retS (vr 2))))))
def F__law_claims : D → List D → R (D × D) := runI 12 false m__law_claims
def m__law_odd : MS := (seqS (setS 1 (lstE (consA (cst .non) (consA (cst (.bl true)) (consA (cst (.bl false)) (consA (cst (.int 0)) (consA (cst (.int 1)) (consA (bin2 subD (cst (.int 0)) (cst (.int 1))) (consA (cst (.int 7)) (consA (cst (.str "")) (consA (cst (.str "a")) (consA (cst (.str "free")) (consA (tupE nilA) (consA (lstE nilA) (consA (cst (.dct [] [])) (consA (tupE (consA (cst (.int 0)) nilA)) (consA (lstE (consA (cst (.int 0)) nilA)) (consA (tupE (consA (lstE nilA) nilA)) (consA (tupE (consA (cst (.dct [] [])) nilA)) (consA (tupE (consA (cst .non) nilA)) (consA (tupE (consA (cst (.int 1)) nilA)) nilA)))))))))))))))))))))
  (seqS (setS 1 (bin2 addD (vr 1) (lstE (consA (tupE (consA (cst (.bl true)) nilA)) (consA (bin2 powD (cst (.int 10)) (cst (.int 30))) (consA (cst (.str "single")) (consA (cst (.str "ahead")) (consA (cst (.str "rest")) (consA (tupE (consA (cst (.int 0)) (consA (cst (.int 1)) nilA))) (consA (tupE (consA (cst (.int 1)) (consA (cst (.int 0)) nilA))) (consA (tupE (consA (tupE (consA (cst (.int 0)) (consA (cst (.int 1)) nilA))) nilA)) (consA (tupE (consA (tupE nilA) (consA (tupE nilA) nilA))) nilA))))))))))))
  (retS (bin2 idxD (vr 1) (calI F__law_take 0 (consA (cst (.int 28)) nilA))))))
def F__law_odd : D → List D → R (D × D) := runI 2 false m__law_odd
def m__law_bent (F0 : D → List D → R (D × D)) : MS := (seqS (ifS (andT (tru (un1 (isiD isTup) (vr 1))) (andT (tst (bin2 neT0 (vr 1) (tupE nilA))) (tst (bin2 gtD (calI F__law_take 0 (consA (cst (.int 5)) nilA)) (cst (.int 0))))))
  (seqS (parS 2 3 (calI F__law_take 0 (consA (callD lenD (consA (vr 1) nilA)) nilA)) (calI F__law_take 0 (consA (cst (.int 9)) nilA)))
  (seqS (ifS (tst (bin2 eqD (vr 3) (cst (.int 0))))
  (retS (bin2 addD (sliE (vr 1) noP (soP (vr 2))) (sliE (vr 1) (soP (bin2 addD (vr 2) (cst (.int 1)))) noP)))
  nxS)
  (seqS (ifS (tst (bin2 eqD (vr 3) (cst (.int 1))))
  (retS (bin2 addD (sliE (vr 1) noP (soP (bin2 addD (vr 2) (cst (.int 1))))) (sliE (vr 1) (soP (vr 2)) noP)))
  nxS)
  (seqS (ifS (tst (bin2 eqD (vr 3) (cst (.int 2))))
  (retS (bin2 addD (bin2 addD (sliE (vr 1) noP (soP (vr 2))) (un1 revD (sliE (vr 1) (soP (vr 2)) (soP (bin2 addD (vr 2) (cst (.int 2))))))) (sliE (vr 1) (soP (bin2 addD (vr 2) (cst (.int 2)))) noP)))
  nxS)
  (retS (bin2 addD (bin2 addD (sliE (vr 1) noP (soP (vr 2))) (tupE (consA (calI F0 0 (consA (bin2 idxD (vr 1) (vr 2)) nilA)) nilA))) (sliE (vr 1) (soP (bin2 addD (vr 2) (cst (.int 1)))) noP)))))))
  nxS)
  (seqS (ifS (tru (un1 (isiD isTup) (vr 1)))
  (retS (bin2 idxD (lstE (consA (callD listD (consA (vr 1) nilA)) (consA (bin2 addD (vr 1) (tupE (consA (calI F__law_odd 0 nilA) nilA))) (consA (un1 revD (vr 1)) (consA (calI F__law_odd 0 nilA) nilA))))) (calI F__law_take 0 (consA (cst (.int 4)) nilA))))
  nxS)
  (seqS (ifS (tru (un1 (isiD isBool) (vr 1)))
  (retS (bin2 idxD (lstE (consA (notV (vr 1)) (consA (callD intD (consA (vr 1) nilA)) (consA (calI F__law_odd 0 nilA) nilA)))) (calI F__law_take 0 (consA (cst (.int 3)) nilA))))
  nxS)
  (seqS (ifS (tru (un1 (isiD isInt) (vr 1)))
  (retS (bin2 idxD (lstE (consA (bin2 addD (vr 1) (cst (.int 1))) (consA (bin2 subD (vr 1) (cst (.int 1))) (consA (bin2 eqD (vr 1) (cst (.int 1))) (consA (calI F__law_odd 0 nilA) (consA (bin2 addD (vr 1) (cst (.int 2))) nilA)))))) (calI F__law_take 0 (consA (cst (.int 5)) nilA))))
  nxS)
  (seqS (ifS (tru (un1 (isiD isStr) (vr 1)))
  (retS (bin2 idxD (lstE (consA (bin2 addD (vr 1) (cst (.str "a"))) (consA (sliE (vr 1) (soP (cst (.int 1))) noP) (consA (un1 revD (vr 1)) (consA (un1 upD (vr 1)) (consA (calI F__law_odd 0 nilA) nilA)))))) (calI F__law_take 0 (consA (cst (.int 5)) nilA))))
  nxS)
  (retS (calI F__law_odd 0 nilA)))))))
def F__law_bent : Nat → D → List D → R (D × D)
  | 0, _, _ => .bad
  | k + 1, d, ds => runI 4 false (m__law_bent (F__law_bent k)) d ds
def m__law_spoilt : MS := (seqS (forM (rng1M (consA (bin2 addD (cst (.int 1)) (calI F__law_take 0 (consA (cst (.int 2)) nilA))) nilA)) (nmG 3)
  (seqS (setS 4 (calI F__law_take 0 (consA (callD lenD (consA (vr 1) nilA)) nilA)))
  (ifS (tst (bin2 eqD (vr 4) (cst (.int 0))))
  (setS 2 (calI (F__law_bent 12) 0 (consA (vr 2) nilA)))
  (setS 1 (bin2 addD (bin2 addD (sliE (vr 1) noP (soP (vr 4))) (tupE (consA (calI (F__law_bent 12) 0 (consA (bin2 idxD (vr 1) (vr 4)) nilA)) nilA))) (sliE (vr 1) (soP (bin2 addD (vr 4) (cst (.int 1)))) noP))))))
  (retS (tupE (consA (vr 1) (consA (vr 2) nilA)))))
def F__law_spoilt : D → List D → R (D × D) := runI 5 false m__law_spoilt
def m__law_whole : MS := (retS (andV (un1 (isiD isInt) (vr 0)) (andV (notV (un1 (isiD isBool) (vr 0))) (bin2 geD (vr 0) (cst (.int 0))))))
def F__law_whole : List D → R D := runB 1 false m__law_whole
def m__law_is_row : MS := (seqS (ifS (orT (notT (tru (un1 (isiD isTup) (vr 0)))) (orT (tst (bin2 neD (callD lenD (consA (vr 0) nilA)) (cst (.int 4)))) (notT (tru (callD allD (consA (asL (lcM [1] (seqM (vr 0)) (nmG 1) yesT (calM F__law_whole [] (consA (vr 1) nilA)))) nilA))))))
  (retS (cst (.bl false)))
  nxS)
  (retS (andV (bin2 leD (bin2 idxD (vr 0) (cst (.int 1))) (cst (.int 240))) (bin2 eqD (bin2 eqD (bin2 idxD (vr 0) (cst (.int 1))) (cst (.int 0))) (bin2 eqD (bin2 idxD (vr 0) (cst (.int 3))) (cst (.int 0)))))))
def F__law_is_row : List D → R D := runB 2 false m__law_is_row
def m__law_shared : MS := (seqS (whS (tst (bin2 gtD (vr 1) (cst (.int 0))))
  (parS 0 1 (vr 1) (bin2 modD (vr 0) (vr 1))) 1000000)
  (retS (vr 0)))
def F__law_shared : List D → R D := runB 2 false m__law_shared
def m__law_meets : MS := (seqS (ifS (andT (tst (bin2 eqD (vr 1) (cst (.int 0)))) (tst (bin2 eqD (vr 3) (cst (.int 0)))))
  (retS (bin2 eqD (vr 0) (vr 2)))
  nxS)
  (seqS (ifS (tst (bin2 eqD (vr 1) (cst (.int 0))))
  (retS (andV (bin2 geD (vr 0) (vr 2)) (bin2 eqD (bin2 modD (bin2 subD (vr 0) (vr 2)) (vr 3)) (cst (.int 0)))))
  nxS)
  (seqS (ifS (tst (bin2 eqD (vr 3) (cst (.int 0))))
  (retS (andV (bin2 geD (vr 2) (vr 0)) (bin2 eqD (bin2 modD (bin2 subD (vr 2) (vr 0)) (vr 1)) (cst (.int 0)))))
  nxS)
  (retS (bin2 eqD (bin2 modD (bin2 subD (vr 0) (vr 2)) (calM F__law_shared [] (consA (vr 1) (consA (vr 3) nilA)))) (cst (.int 0)))))))
def F__law_meets : List D → R D := runB 4 false m__law_meets
def m__law_fault : MS := (seqS (ifS (orT (notT (tru (un1 (isiD isTup) (vr 0)))) (tst (bin2 gtD (callD lenD (consA (vr 0) nilA)) (cst (.int 60)))))
  (retS (tupE (consA (cst .non) nilA)))
  nxS)
  (seqS (setS 1 (cst (.int 1)))
  (seqS (forM (rng1M (consA (callD lenD (consA (vr 0) nilA)) nilA)) (nmG 2)
  (seqS (setS 3 (bin2 idxD (vr 0) (vr 2)))
  (seqS (ifS (notT (tru (calM F__law_is_row [] (consA (vr 3) nilA))))
  (retS (tupE (consA (vr 2) nilA)))
  nxS)
  (seqS (setS 1 (bin2 fdivD (bin2 mulD (vr 1) (callD maxD (consA (cst (.int 1)) (consA (bin2 idxD (vr 3) (cst (.int 1))) nilA)))) (calM F__law_shared [] (consA (vr 1) (consA (callD maxD (consA (cst (.int 1)) (consA (bin2 idxD (vr 3) (cst (.int 1))) nilA))) nilA)))))
  (seqS (ifS (tst (bin2 gtD (vr 1) (cst (.int 240))))
  (retS (tupE (consA (vr 2) nilA)))
  nxS)
  (forM (seqM (sliE (vr 0) noP (soP (vr 2)))) (nmG 4)
  (ifS (orT (tru (calM F__law_meets [] (consA (bin2 idxD (vr 3) (cst (.int 0))) (consA (bin2 idxD (vr 3) (cst (.int 1))) (consA (bin2 idxD (vr 4) (cst (.int 0))) (consA (bin2 idxD (vr 4) (cst (.int 1))) nilA)))))) (tru (calM F__law_meets [] (consA (bin2 idxD (vr 3) (cst (.int 2))) (consA (bin2 idxD (vr 3) (cst (.int 3))) (consA (bin2 idxD (vr 4) (cst (.int 2))) (consA (bin2 idxD (vr 4) (cst (.int 3))) nilA)))))))
  (retS (tupE (consA (vr 2) nilA)))
  nxS)))))))
  (retS (tupE nilA)))))
def F__law_fault : List D → R D := runB 5 false m__law_fault
def m__law_lies : MS := (seqS (asgS (vr 0) (tupG 4 (consG (nmG 2) (consG (nmG 3) (consG (nmG 4) (consG (nmG 5) nilG))))))
  (seqS (ifS (orT (tst (bin2 neT0 (calM F__law_fault [] (consA (vr 3) nilA)) (tupE nilA))) (orT (notT (tru (calM F__law_whole [] (consA (vr 4) nilA)))) (orT (notT (tru (calM F__law_whole [] (consA (vr 5) nilA)))) (notT (tru (un1 (isiD isTup) (vr 1)))))))
  (retS (cst (.bl false)))
  nxS)
  (seqS (ifS (orT (tst (bin2 neD (callD lenD (consA (vr 1) nilA)) (cst (.int 2)))) (notT (tru (callD allD (consA (asL (lcM [7] (seqM (vr 1)) (nmG 7) yesT (calM F__law_whole [] (consA (vr 7) nilA)))) nilA)))))
  (retS (cst (.bl false)))
  nxS)
  (seqS (ifS (tst (bin2 geD (bin2 idxD (vr 1) (cst (.int 0))) (callD lenD (consA (vr 3) nilA))))
  (retS (cst (.bl false)))
  nxS)
  (seqS (setS 6 (bin2 idxD (vr 3) (bin2 idxD (vr 1) (cst (.int 0)))))
  (seqS (ifS (andT (tst (bin2 eqD (bin2 idxD (vr 6) (cst (.int 1))) (cst (.int 0)))) (tst (bin2 gtD (bin2 idxD (vr 1) (cst (.int 1))) (cst (.int 0)))))
  (retS (cst (.bl false)))
  nxS)
  (retS (andV (bin2 eqD (bin2 addD (bin2 idxD (vr 6) (cst (.int 0))) (bin2 mulD (bin2 idxD (vr 6) (cst (.int 1))) (bin2 idxD (vr 1) (cst (.int 1))))) (vr 4)) (bin2 eqD (bin2 addD (bin2 idxD (vr 6) (cst (.int 2))) (bin2 mulD (bin2 idxD (vr 6) (cst (.int 3))) (bin2 idxD (vr 1) (cst (.int 1))))) (vr 5))))))))))
def F__law_lies : List D → R D := runB 8 false m__law_lies
def m__law_free : MS := (seqS (asgS (vr 0) (tupG 3 (consG (nmG 2) (consG (nmG 3) (consG (nmG 4) nilG)))))
  (seqS (ifS (orT (tst (bin2 neT0 (calM F__law_fault [] (consA (vr 3) nilA)) (tupE nilA))) (orT (notT (tru (calM F__law_whole [] (consA (vr 4) nilA)))) (orT (notT (tru (un1 (isiD isTup) (vr 1)))) (tst (bin2 neD (callD lenD (consA (vr 1) nilA)) (callD lenD (consA (vr 3) nilA)))))))
  (retS (cst (.bl false)))
  nxS)
  (retS (callD allD (consA (asL (lcM [5] (rng1M (consA (callD lenD (consA (vr 3) nilA)) nilA)) (nmG 5) yesT (andV (un1 (isiD isStr) (bin2 idxD (vr 1) (vr 5))) (bin2 (memD false) (bin2 idxD (vr 1) (vr 5)) (calM F__law_why [] (consA (bin2 idxD (vr 3) (vr 5)) (consA (vr 4) nilA))))))) nilA)))))
def F__law_free : List D → R D := runB 6 false m__law_free
def m__law_due : MS := (retS (ifV (tst (bin2 eqD (bin2 idxD (vr 0) (cst (.int 0))) (cst (.str "lies")))) (calM F__law_lies [] (consA (vr 0) (consA (vr 1) nilA))) (calM F__law_free [] (consA (vr 0) (consA (vr 1) nilA)))))
def F__law_due : List D → R D := runB 2 false m__law_due
def m__law_right : MS := (seqS (setS 1 (calI F__law_laying 0 (consA (cst (.bl true)) nilA)))
  (seqS (forM (seqM (calI F__law_claims 0 (consA (vr 1) nilA))) (tupG 2 (consG (nmG 2) (consG (nmG 3) nilG)))
  (seqS (ifS (notT (tru (calM F__law_taken [] (consA (vr 2) (consA (vr 3) (consA (calM F__law_due [] (consA (vr 2) (consA (vr 3) nilA))) nilA))))))
  (retS (cst (.bl false)))
  nxS)
  (seqS (asgS (calI F__law_spoilt 0 (consA (vr 2) (consA (vr 3) nilA))) (tupG 2 (consG (nmG 4) (consG (nmG 5) nilG))))
  (ifS (notT (tru (calM F__law_taken [] (consA (vr 4) (consA (vr 5) (consA (calM F__law_due [] (consA (vr 4) (consA (vr 5) nilA))) nilA))))))
  (retS (cst (.bl false)))
  nxS))))
  (retS (andV (bin2 isB (calM F_holds [] (consA (tupE (consA (cst (.str "free")) (consA (tupE nilA) (consA (bin2 powD (cst (.int 10)) (cst (.int 40))) nilA)))) (consA (tupE nilA) nilA))) (cst (.bl true))) (bin2 isB (calM F_holds [] (consA (tupE (consA (cst (.str "free")) (consA (tupE nilA) (consA (cst (.int 0)) nilA)))) (consA (cst .non) nilA))) (cst (.bl false)))))))
def F__law_right : D → List D → R (D × D) := runI 6 false m__law_right
def m__law_purse : MS := (seqS (setS 1 (cst (.int 0)))
  (seqS (ifS (orT (tst (bin2 ltD (vr 0) (cst (.int 0)))) (tst (bin2 geD (vr 0) (bin2 powD (cst (.int 10)) (cst (.int 18))))))
  (setS 1 (callD absD (consA (vr 0) nilA)))
  nxS)
  (retF (szA (consA (bin2 modD (vr 0) (cst (.int 1000000021))) (consA (vr 1) (consA (cst (.int 0)) nilA)))))))
def F__law_purse : List D → R D := runB 2 true m__law_purse
def m__law_cell : MS := (seqS (ifS (tst (bin2 ltD (vr 1) (callD lenD (consA (vr 0) nilA))))
  (retS (bin2 idxD (vr 0) (vr 1)))
  nxS)
  (seqS (setS 2 (bin2 modD (bin2 mulD (cst (.int 70001)) (bin2 addD (bin2 addD (bin2 mulD (vr 1) (vr 1)) (bin2 mulD (cst (.int 9)) (vr 1))) (cst (.int 13)))) (cst (.int 1000000021))))
  (seqS (forM (seqM (sliE (vr 0) noP (soP (cst (.int 3))))) (nmG 3)
  (setS 2 (bin2 modD (bin2 addD (bin2 mulD (vr 2) (cst (.int 40009))) (vr 3)) (cst (.int 1000000021)))))
  (retS (vr 2)))))
def F__law_cell : List D → R D := runB 4 false m__law_cell
def m_law : MS := (seqS (ifS (notT (tru (calM F__law_by_hand [] nilA)))
  (retS (cst (.bl false)))
  nxS)
  (retS (callD allD (consA (asL (lcM [1] (rng1M (consA (callD maxD (consA (cst (.int 2)) (consA (callD minD (consA (callD lenD (consA (vr 0) nilA)) (consA (cst (.int 4)) nilA))) nilA))) nilA)) (nmG 1) yesT (caN F__law_right (calF F__law_purse [] (consA (calM F__law_cell [] (consA (vr 0) (consA (vr 1) nilA))) nilA)) nilA))) nilA))))
def F_law : List D → R D := runB 2 false m_law
/-! ### what the module holds -/
def fnA (K : PySem.W.Frag) : Nat → Option Addr
  | 0 => some (He.ga K "claim_lies")
  | 1 => some (He.ga K "is_free")
  | _ => none
structure MG (w : World) (K : PySem.W.Frag) (mg : Str → Option Value) : Prop where
  fr_abs : mg "abs" = none
  fr_all : mg "all" = none
  fr_any : mg "any" = none
  fr_bool : mg "bool" = none
  fr_enumerate : mg "enumerate" = none
  fr_int : mg "int" = none
  fr_isinstance : mg "isinstance" = none
  fr_len : mg "len" = none
  fr_list : mg "list" = none
  fr_max : mg "max" = none
  fr_min : mg "min" = none
  fr_range : mg "range" = none
  fr_str : mg "str" = none
  fr_tuple : mg "tuple" = none
  fr_zip : mg "zip" = none
  gi_MOST_ROWS : ∃ t, mg "MOST_ROWS" = some (.int 60 t)
  gi_MOST_STEP : ∃ t, mg "MOST_STEP" = some (.int 240 t)
  gf__law_bent : mg "_law_bent" = some (.ref (He.ga K "_law_bent"))
  gf__law_by_hand : mg "_law_by_hand" = some (.ref (He.ga K "_law_by_hand"))
  gf__law_cell : mg "_law_cell" = some (.ref (He.ga K "_law_cell"))
  gf__law_claims : mg "_law_claims" = some (.ref (He.ga K "_law_claims"))
  gf__law_classes : mg "_law_classes" = some (.ref (He.ga K "_law_classes"))
  gf__law_due : mg "_law_due" = some (.ref (He.ga K "_law_due"))
  gf__law_fault : mg "_law_fault" = some (.ref (He.ga K "_law_fault"))
  gf__law_free : mg "_law_free" = some (.ref (He.ga K "_law_free"))
  gf__law_is_row : mg "_law_is_row" = some (.ref (He.ga K "_law_is_row"))
  gf__law_laying : mg "_law_laying" = some (.ref (He.ga K "_law_laying"))
  gf__law_lies : mg "_law_lies" = some (.ref (He.ga K "_law_lies"))
  gf__law_meets : mg "_law_meets" = some (.ref (He.ga K "_law_meets"))
  gf__law_odd : mg "_law_odd" = some (.ref (He.ga K "_law_odd"))
  gf__law_purse : mg "_law_purse" = some (.ref (He.ga K "_law_purse"))
  gf__law_right : mg "_law_right" = some (.ref (He.ga K "_law_right"))
  gf__law_shared : mg "_law_shared" = some (.ref (He.ga K "_law_shared"))
  gf__law_spoilt : mg "_law_spoilt" = some (.ref (He.ga K "_law_spoilt"))
  gf__law_take : mg "_law_take" = some (.ref (He.ga K "_law_take"))
  gf__law_taken : mg "_law_taken" = some (.ref (He.ga K "_law_taken"))
  gf__law_whole : mg "_law_whole" = some (.ref (He.ga K "_law_whole"))
  gf__law_why : mg "_law_why" = some (.ref (He.ga K "_law_why"))
  gf_common : mg "common" = some (.ref (He.ga K "common"))
  gf_divisor : mg "divisor" = some (.ref (He.ga K "divisor"))
  gf_holds : mg "holds" = some (.ref (He.ga K "holds"))
  gf_is_count : mg "is_count" = some (.ref (He.ga K "is_count"))
  gf_is_laying : mg "is_laying" = some (.ref (He.ga K "is_laying"))
  gf_is_row : mg "is_row" = some (.ref (He.ga K "is_row"))
  gf_law : mg "law" = some (.ref (He.ga K "law"))
  gf_row_misses : mg "row_misses" = some (.ref (He.ga K "row_misses"))
  gf_rows_touch : mg "rows_touch" = some (.ref (He.ga K "rows_touch"))
  gt_CLAIMS : mg "CLAIMS" = some (.ref (He.ga K "CLAIMS"))
  kt_CLAIMS : KTab (kx K (fnA K)) w (He.ga K "CLAIMS") tbl_CLAIMS
  fd_divisor : ∃ fd, FunD K "divisor" "divisor" (defArgs s_divisor) (defBody s_divisor) (defScope s_divisor) [] [] (He.ga K "divisor") fd
  fd_common : ∃ fd, FunD K "common" "common" (defArgs s_common) (defBody s_common) (defScope s_common) [] [] (He.ga K "common") fd
  fd_is_count : ∃ fd, FunD K "is_count" "is_count" (defArgs s_is_count) (defBody s_is_count) (defScope s_is_count) [.int 0, .non] [] (He.ga K "is_count") fd
  fd_is_row : ∃ fd, FunD K "is_row" "is_row" (defArgs s_is_row) (defBody s_is_row) (defScope s_is_row) [] [] (He.ga K "is_row") fd
  fd_rows_touch : ∃ fd, FunD K "rows_touch" "rows_touch" (defArgs s_rows_touch) (defBody s_rows_touch) (defScope s_rows_touch) [] [] (He.ga K "rows_touch") fd
  fd_is_laying : ∃ fd, FunD K "is_laying" "is_laying" (defArgs s_is_laying) (defBody s_is_laying) (defScope s_is_laying) [] [] (He.ga K "is_laying") fd
  fd_claim_lies : ∃ fd, FunD K "claim_lies" "claim_lies" (defArgs s_claim_lies) (defBody s_claim_lies) (defScope s_claim_lies) [] [] (He.ga K "claim_lies") fd
  fd_row_misses : ∃ fd, FunD K "row_misses" "row_misses" (defArgs s_row_misses) (defBody s_row_misses) (defScope s_row_misses) [] [] (He.ga K "row_misses") fd
  fd_is_free : ∃ fd, FunD K "is_free" "is_free" (defArgs s_is_free) (defBody s_is_free) (defScope s_is_free) [] [] (He.ga K "is_free") fd
  fd_holds : ∃ fd, FunD K "holds" "holds" (defArgs s_holds) (defBody s_holds) (defScope s_holds) [] [] (He.ga K "holds") fd
  fd__law_taken : ∃ fd, FunD K "_law_taken" "_law_taken" (defArgs s__law_taken) (defBody s__law_taken) (defScope s__law_taken) [] [] (He.ga K "_law_taken") fd
  fd__law_by_hand : ∃ fd, FunD K "_law_by_hand" "_law_by_hand" (defArgs s__law_by_hand) (defBody s__law_by_hand) (defScope s__law_by_hand) [] [] (He.ga K "_law_by_hand") fd
  fd__law_take : ∃ fd, FunD K "_law_take" "_law_take" (defArgs s__law_take) (defBody s__law_take) (defScope s__law_take) [] [] (He.ga K "_law_take") fd
  fd__law_classes : ∃ fd, FunD K "_law_classes" "_law_classes" (defArgs s__law_classes) (defBody s__law_classes) (defScope s__law_classes) [] [] (He.ga K "_law_classes") fd
  fd__law_laying : ∃ fd, FunD K "_law_laying" "_law_laying" (defArgs s__law_laying) (defBody s__law_laying) (defScope s__law_laying) [] [] (He.ga K "_law_laying") fd
  fd__law_why : ∃ fd, FunD K "_law_why" "_law_why" (defArgs s__law_why) (defBody s__law_why) (defScope s__law_why) [] [] (He.ga K "_law_why") fd
  fd__law_claims : ∃ fd, FunD K "_law_claims" "_law_claims" (defArgs s__law_claims) (defBody s__law_claims) (defScope s__law_claims) [] [] (He.ga K "_law_claims") fd
  fd__law_odd : ∃ fd, FunD K "_law_odd" "_law_odd" (defArgs s__law_odd) (defBody s__law_odd) (defScope s__law_odd) [] [] (He.ga K "_law_odd") fd
  fd__law_bent : ∃ fd, FunD K "_law_bent" "_law_bent" (defArgs s__law_bent) (defBody s__law_bent) (defScope s__law_bent) [] [] (He.ga K "_law_bent") fd
  fd__law_spoilt : ∃ fd, FunD K "_law_spoilt" "_law_spoilt" (defArgs s__law_spoilt) (defBody s__law_spoilt) (defScope s__law_spoilt) [] [] (He.ga K "_law_spoilt") fd
  fd__law_whole : ∃ fd, FunD K "_law_whole" "_law_whole" (defArgs s__law_whole) (defBody s__law_whole) (defScope s__law_whole) [] [] (He.ga K "_law_whole") fd
  fd__law_is_row : ∃ fd, FunD K "_law_is_row" "_law_is_row" (defArgs s__law_is_row) (defBody s__law_is_row) (defScope s__law_is_row) [] [] (He.ga K "_law_is_row") fd
  fd__law_shared : ∃ fd, FunD K "_law_shared" "_law_shared" (defArgs s__law_shared) (defBody s__law_shared) (defScope s__law_shared) [] [] (He.ga K "_law_shared") fd
  fd__law_meets : ∃ fd, FunD K "_law_meets" "_law_meets" (defArgs s__law_meets) (defBody s__law_meets) (defScope s__law_meets) [] [] (He.ga K "_law_meets") fd
  fd__law_fault : ∃ fd, FunD K "_law_fault" "_law_fault" (defArgs s__law_fault) (defBody s__law_fault) (defScope s__law_fault) [] [] (He.ga K "_law_fault") fd
  fd__law_lies : ∃ fd, FunD K "_law_lies" "_law_lies" (defArgs s__law_lies) (defBody s__law_lies) (defScope s__law_lies) [] [] (He.ga K "_law_lies") fd
  fd__law_free : ∃ fd, FunD K "_law_free" "_law_free" (defArgs s__law_free) (defBody s__law_free) (defScope s__law_free) [] [] (He.ga K "_law_free") fd
  fd__law_due : ∃ fd, FunD K "_law_due" "_law_due" (defArgs s__law_due) (defBody s__law_due) (defScope s__law_due) [] [] (He.ga K "_law_due") fd
  fd__law_right : ∃ fd, FunD K "_law_right" "_law_right" (defArgs s__law_right) (defBody s__law_right) (defScope s__law_right) [] [] (He.ga K "_law_right") fd
  fd__law_purse : ∃ fd, FunD K "_law_purse" "_law_purse" (defArgs s__law_purse) (defBody s__law_purse) (defScope s__law_purse) [] [] (He.ga K "_law_purse") fd
  fd__law_cell : ∃ fd, FunD K "_law_cell" "_law_cell" (defArgs s__law_cell) (defBody s__law_cell) (defScope s__law_cell) [] [] (He.ga K "_law_cell") fd
  fd_law : ∃ fd, FunD K "law" "law" (defArgs s_law) (defBody s_law) (defScope s_law) [] [] (He.ga K "law") fd
variable {P : Program} {w : World} {K : PySem.W.Frag} {mg : Str → Option Value} {base : Heap}
theorem b_divisor {fd : FuncData} (F : FunD K "divisor" "divisor" (defArgs s_divisor) (defBody s_divisor) (defScope s_divisor) [] [] (He.ga K "divisor") fd) : L2.Binds K fd ["one", "other"] [] := F.bindsN fun _ _ _ _ _ _ us hl => match us, hl with | [_, _], _ => rfl
theorem fo_divisor (E : MG w K mg) {fd : FuncData} (F : FunD K "divisor" "divisor" (defArgs s_divisor) (defBody s_divisor) (defScope s_divisor) [] [] (He.ga K "divisor") fd) : FnOk P w K mg base CX0 1 (He.ga K "divisor") fd ["one", "other"] (spP (kx K (fnA K)) 2 false F_divisor) := by
  refine fn_P (lv := 0) (n := 2) (NN := 2) (nw := false) (own := []) (fb := m_divisor) (k := kx K (fnA K)) (N := N_divisor) F sc_divisor rfl rfl (by decide) (fun cdv A outer s H E' M H0 W hr => ?_)
  unfold m_divisor
  exact (js_cons (js_while 1000000 PassesOwn.never (jt_cmp (Dn.op_neX hr.units) opd_ne neD_nx (by rfl) (je_var (i := 1) (show 1 ∉ ([] : List Nat) by decide) rfl (.inl (by kernel_rfl))) je_int)
  (js_one (js_par (i := 0) (j := 1) (show 0 ∉ ([] : List Nat) by decide) (free_P rfl) (show 1 ∉ ([] : List Nat) by decide) (free_P rfl) rfl sc_divisor.nd rfl rfl (show (0 : Nat) ≠ 1 by decide) (by kernel_rfl) (by kernel_rfl) (je_var (i := 1) (show 1 ∉ ([] : List Nat) by decide) rfl (.inl (by kernel_rfl))) (je_op op_modN opd_mod modD_nx (je_var (i := 0) (show 0 ∉ ([] : List Nat) by decide) rfl (.inl (by kernel_rfl))) (je_var (i := 1) (show 1 ∉ ([] : List Nat) by decide) rfl (.inl (by kernel_rfl)))) rfl)))
  (js_one (js_ret (je_callB call_abs cad_abs absD_nx rfl E.fr_abs PyProof.Rows.boot_abs (ja_cons (je_var (i := 0) (show 0 ∉ ([] : List Nat) by decide) rfl (.inl (by kernel_rfl))) ja_nil)))))
theorem h_divisor_0 (E : MG w K mg) : HeldD P w K mg base 1 (He.ga K "divisor") (spP (kx K (fnA K)) 2 false F_divisor) [] := by
  obtain ⟨fd, F0⟩ := E.fd_divisor
  exact held_N F0 (fo_divisor E F0) (b_divisor F0)
theorem b_common {fd : FuncData} (F : FunD K "common" "common" (defArgs s_common) (defBody s_common) (defScope s_common) [] [] (He.ga K "common") fd) : L2.Binds K fd ["numbers"] [] := F.bindsN fun _ _ _ _ _ _ us hl => match us, hl with | [_], _ => rfl
theorem fo_common (E : MG w K mg) {fd : FuncData} (F : FunD K "common" "common" (defArgs s_common) (defBody s_common) (defScope s_common) [] [] (He.ga K "common") fd) : FnOk P w K mg base CX0 2 (He.ga K "common") fd ["numbers"] (spP (kx K (fnA K)) 1 false F_common) := by
  refine fn_P (lv := 1) (n := 1) (NN := 3) (nw := false) (own := []) (fb := m_common) (k := kx K (fnA K)) (N := N_common) F sc_common rfl rfl (by decide) (fun cdv A outer s H E' M H0 W hr => ?_)
  unfold m_common
  exact (js_cons (js_set (i := 1) (show 1 ∉ ([] : List Nat) by decide) (free_P rfl) sc_common.nd rfl (.inl (by kernel_rfl)) (.inl rfl) je_int)
  (js_cons (js_for (nmG_nx 2) PassesOwn.never rfl (ji_seq rfl (je_var (i := 0) (show 0 ∉ ([] : List Nat) by decide) rfl (.inl (by kernel_rfl)))) (jg_name (i := 2) (show 2 ∉ ([] : List Nat) by decide) (free_P rfl) sc_common.nd rfl (.inl (by kernel_rfl)) (.inl rfl))
  (js_one (js_set (i := 1) (show 1 ∉ ([] : List Nat) by decide) (free_P rfl) sc_common.nd rfl (.inl (by kernel_rfl)) (.inl rfl) (je_op Dn.op_divX opd_fdiv fdivD_nx (je_op Dn.op_mulX opd_mul mulD_nx (je_var (i := 1) (show 1 ∉ ([] : List Nat) by decide) rfl (.inl (by kernel_rfl))) (je_var (i := 2) (show 2 ∉ ([] : List Nat) by decide) rfl (.inl (by kernel_rfl)))) (jc_call (h_divisor_0 E) hr (show 1 ≤ 1 by decide) rfl E.gf_divisor (fun _ _ => rfl) rfl (consA_len (consA_len nilA_len)) (ja_cons (je_var (i := 1) (show 1 ∉ ([] : List Nat) by decide) rfl (.inl (by kernel_rfl))) (ja_cons (je_var (i := 2) (show 2 ∉ ([] : List Nat) by decide) rfl (.inl (by kernel_rfl))) ja_nil)))))))
  (js_one (js_ret (je_var (i := 1) (show 1 ∉ ([] : List Nat) by decide) rfl (.inl (by kernel_rfl)))))))
theorem h_common_0 (E : MG w K mg) : HeldD P w K mg base 2 (He.ga K "common") (spP (kx K (fnA K)) 1 false F_common) [] := by
  obtain ⟨fd, F0⟩ := E.fd_common
  exact held_N F0 (fo_common E F0) (b_common F0)
theorem fo_is_count (E : MG w K mg) {fd : FuncData} (F : FunD K "is_count" "is_count" (defArgs s_is_count) (defBody s_is_count) (defScope s_is_count) [.int 0, .non] [] (He.ga K "is_count") fd) : FnOk P w K mg base CX0 1 (He.ga K "is_count") fd ["thing", "least", "most"] (spP (kx K (fnA K)) 3 false F_is_count) := by
  refine fn_P (lv := 0) (n := 3) (NN := 3) (nw := false) (own := []) (fb := m_is_count) (k := kx K (fnA K)) (N := N_is_count) F sc_is_count rfl rfl (by decide) (fun cdv A outer s H E' M H0 W hr => ?_)
  unfold m_is_count
  exact (js_cons (js_if (PW.pt (jw_or (jt_tru rfl (je_isi isiBool rfl rfl E.fr_isinstance rfl E.fr_bool PyProof.Rows.boot_bool (je_var (i := 0) (show 0 ∉ ([] : List Nat) by decide) rfl (.inl (by kernel_rfl))))) (jw_or1 (jt_not (jt_tru rfl (je_isi isiInt rfl rfl E.fr_isinstance rfl E.fr_int PyProof.Rows.boot_int (je_var (i := 0) (show 0 ∉ ([] : List Nat) by decide) rfl (.inl (by kernel_rfl))))))))) (js_one (js_ret je_bl)) js_nil)
  (js_one (js_ret (je_and (je_cmp op_ge opd_ge geD_nx (by rfl) (je_var (i := 0) (show 0 ∉ ([] : List Nat) by decide) rfl (.inl (by kernel_rfl))) (je_var (i := 1) (show 1 ∉ ([] : List Nat) by decide) rfl (.inl (by kernel_rfl)))) (je_one (je_or (je_cmp op_isN opd_isN isN_nx (by rfl) (je_var (i := 2) (show 2 ∉ ([] : List Nat) by decide) rfl (.inl (by kernel_rfl))) je_non) (je_one (je_cmp op_le opd_le leD_nx (by rfl) (je_var (i := 0) (show 0 ∉ ([] : List Nat) by decide) rfl (.inl (by kernel_rfl))) (je_var (i := 2) (show 2 ∉ ([] : List Nat) by decide) rfl (.inl (by kernel_rfl)))))))))))
theorem h_is_count_0 (E : MG w K mg) : HeldD P w K mg base 1 (He.ga K "is_count") (spP (kx K (fnA K)) 3 false F_is_count) [.int 0, .non] := by
  obtain ⟨fd, F0⟩ := E.fd_is_count
  exact held_D F0 (fo_is_count E F0) (F0.binds1 (ps := ["thing", "least", "most"]) 1 0 (by decide) rfl fun _ _ _ _ _ _ _ us its hl hi => match us, its, hl, hi with | [_], [_, _], _, _ => ⟨_, rfl, rfl⟩)
theorem b_is_row {fd : FuncData} (F : FunD K "is_row" "is_row" (defArgs s_is_row) (defBody s_is_row) (defScope s_is_row) [] [] (He.ga K "is_row") fd) : L2.Binds K fd ["thing"] [] := F.bindsN fun _ _ _ _ _ _ us hl => match us, hl with | [_], _ => rfl
theorem fo_is_row (E : MG w K mg) {fd : FuncData} (F : FunD K "is_row" "is_row" (defArgs s_is_row) (defBody s_is_row) (defScope s_is_row) [] [] (He.ga K "is_row") fd) : FnOk P w K mg base CX0 2 (He.ga K "is_row") fd ["thing"] (spP (kx K (fnA K)) 1 false F_is_row) := by
  refine fn_P (lv := 1) (n := 1) (NN := 2) (nw := false) (own := []) (fb := m_is_row) (k := kx K (fnA K)) (N := N_is_row) F sc_is_row rfl rfl (by decide) (fun cdv A outer s H E' M H0 W hr => ?_)
  unfold m_is_row
  exact (js_cons (js_if (PW.pt (jw_or (jt_not (jt_tru rfl (je_isi isiTup rfl rfl E.fr_isinstance rfl E.fr_tuple PyProof.Rows.boot_tuple (je_var (i := 0) (show 0 ∉ ([] : List Nat) by decide) rfl (.inl (by kernel_rfl)))))) (jw_or (jt_cmp (Dn.op_neX hr.units) opd_ne neD_nx (by rfl) (je_callB call_lenX cad_len lenD_nx rfl E.fr_len PySem.boot_len (ja_cons (je_var (i := 0) (show 0 ∉ ([] : List Nat) by decide) rfl (.inl (by kernel_rfl))) ja_nil)) je_int) (jw_or1 (jt_not (jt_tru rfl (je_callB (cr_all rfl) cad_all allD_nx rfl E.fr_all PyProof.Rows.boot_all (ja_cons (je_of (jf_lc (own := [("part", 1)]) rfl sc_is_row.nd (okv_P rfl (show ∀ v ∈ ([1] : List Nat), v ∉ ([] : List Nat) by decide)) (ji_seq rfl (je_var (i := 0) (show 0 ∉ ([] : List Nat) by decide) rfl (.inl (by kernel_rfl)))) (blkOk_by (own := [("part", 1)]) (N := N_is_row) (sc := defScope s_is_row) (by decide +kernel)) (fun _ _ _ _ _ _ => (jv_name (i := 1) (by decide) (show 1 ∉ ([] : List Nat) by decide) (free_P rfl) sc_is_row.nd rfl (.inl (by kernel_rfl)) (.inr (by kernel_rfl)))) (fun _ _ _ _ _ _ => jts_nil) (fun _ _ _ _ _ _ => (jc_call (h_is_count_0 E) hr (show 1 ≤ 1 by decide) rfl E.gf_is_count (fun _ _ => ⟨_, _, rfl, rfl, ⟨_, _, rfl, rfl, rfl⟩⟩) rfl (consA_len nilA_len) (ja_cons (je_var (i := 1) (show 1 ∉ ([] : List Nat) by decide) rfl (.inl (by kernel_rfl))) ja_nil))))) ja_nil)))))))) (js_one (js_ret je_bl)) js_nil)
  (js_one (js_ret (je_and (je_cmp (Dn.op_eqX hr.units) opd_eq eqD_nx (by rfl) (je_cmp op_gt opd_gt gtD_nx (by rfl) (je_ix rfl (fun _ _ => rfl) (je_var (i := 0) (show 0 ∉ ([] : List Nat) by decide) rfl (.inl (by kernel_rfl))) je_int) je_int) (je_cmp op_gt opd_gt gtD_nx (by rfl) (je_ix rfl (fun _ _ => rfl) (je_var (i := 0) (show 0 ∉ ([] : List Nat) by decide) rfl (.inl (by kernel_rfl))) je_int) je_int)) (je_one (je_cmp op_le opd_le leD_nx (by rfl) (je_ix rfl (fun _ _ => rfl) (je_var (i := 0) (show 0 ∉ ([] : List Nat) by decide) rfl (.inl (by kernel_rfl))) je_int) (je_gi E.gi_MOST_STEP rfl)))))))
theorem h_is_row_0 (E : MG w K mg) : HeldD P w K mg base 2 (He.ga K "is_row") (spP (kx K (fnA K)) 1 false F_is_row) [] := by
  obtain ⟨fd, F0⟩ := E.fd_is_row
  exact held_N F0 (fo_is_row E F0) (b_is_row F0)
theorem b_rows_touch {fd : FuncData} (F : FunD K "rows_touch" "rows_touch" (defArgs s_rows_touch) (defBody s_rows_touch) (defScope s_rows_touch) [] [] (He.ga K "rows_touch") fd) : L2.Binds K fd ["one", "step", "other", "pace"] [] := F.bindsN fun _ _ _ _ _ _ us hl => match us, hl with | [_, _, _, _], _ => rfl
theorem fo_rows_touch (E : MG w K mg) {fd : FuncData} (F : FunD K "rows_touch" "rows_touch" (defArgs s_rows_touch) (defBody s_rows_touch) (defScope s_rows_touch) [] [] (He.ga K "rows_touch") fd) (B : L2.Binds K fd ["one", "step", "other", "pace"] []) : ∀ k, FnOk P w K mg base CX0 (1 + k + 1) (He.ga K "rows_touch") fd ["one", "step", "other", "pace"] (spP (kx K (fnA K)) 4 false (F_rows_touch k))
  | 0 => by
    refine F.ok sc_rows_touch (fun vs H Q E h => ?_) (fun cdv A outer s H vs Q E hr hsp => ?_)
    · obtain ⟨M, ds, h1, _⟩ := h
      rw [h1] <;> rfl
    · obtain ⟨M, ds, _, _, _, h⟩ := hsp
      exact h.elim
  | k + 1 => by
    have A0 : HeldD P w K mg base (1 + k + 1) (He.ga K "rows_touch") (spP (kx K (fnA K)) 4 false (F_rows_touch k)) [] := held_N F (fo_rows_touch E F B k) B
    refine fn_P (lv := 1 + k + 1) (n := 4) (NN := 4) (nw := false) (own := []) (fb := m_rows_touch (F_rows_touch k)) (k := kx K (fnA K)) (N := N_rows_touch) F sc_rows_touch rfl rfl (by decide) (fun cdv A outer s H E' M H0 W hr => ?_)
    have hle := Nat.le_refl (1 + k + 1)
    unfold m_rows_touch
    exact (js_cons (js_if (PW.pt (jw_and (jt_cmp (Dn.op_eqX hr.units) opd_eq eqD_nx (by rfl) (je_var (i := 1) (show 1 ∉ ([] : List Nat) by decide) rfl (.inl (by kernel_rfl))) je_int) (jw_and1 (jt_cmp (Dn.op_eqX hr.units) opd_eq eqD_nx (by rfl) (je_var (i := 3) (show 3 ∉ ([] : List Nat) by decide) rfl (.inl (by kernel_rfl))) je_int)))) (js_one (js_ret (je_cmp (Dn.op_eqX hr.units) opd_eq eqD_nx (by rfl) (je_var (i := 0) (show 0 ∉ ([] : List Nat) by decide) rfl (.inl (by kernel_rfl))) (je_var (i := 2) (show 2 ∉ ([] : List Nat) by decide) rfl (.inl (by kernel_rfl)))))) js_nil)
  (js_cons (js_if (jt_cmp (Dn.op_eqX hr.units) opd_eq eqD_nx (by rfl) (je_var (i := 1) (show 1 ∉ ([] : List Nat) by decide) rfl (.inl (by kernel_rfl))) je_int) (js_one (js_ret (je_and (je_cmp op_ge opd_ge geD_nx (by rfl) (je_var (i := 0) (show 0 ∉ ([] : List Nat) by decide) rfl (.inl (by kernel_rfl))) (je_var (i := 2) (show 2 ∉ ([] : List Nat) by decide) rfl (.inl (by kernel_rfl)))) (je_one (je_cmp (Dn.op_eqX hr.units) opd_eq eqD_nx (by rfl) (je_op op_modN opd_mod modD_nx (je_op op_sub opd_sub subD_nx (je_var (i := 0) (show 0 ∉ ([] : List Nat) by decide) rfl (.inl (by kernel_rfl))) (je_var (i := 2) (show 2 ∉ ([] : List Nat) by decide) rfl (.inl (by kernel_rfl)))) (je_var (i := 3) (show 3 ∉ ([] : List Nat) by decide) rfl (.inl (by kernel_rfl)))) je_int))))) js_nil)
  (js_cons (js_if (jt_cmp (Dn.op_eqX hr.units) opd_eq eqD_nx (by rfl) (je_var (i := 3) (show 3 ∉ ([] : List Nat) by decide) rfl (.inl (by kernel_rfl))) je_int) (js_one (js_ret (jc_call (A0) hr hle rfl E.gf_rows_touch (fun _ _ => rfl) rfl (consA_len (consA_len (consA_len (consA_len nilA_len)))) (ja_cons (je_var (i := 2) (show 2 ∉ ([] : List Nat) by decide) rfl (.inl (by kernel_rfl))) (ja_cons (je_var (i := 3) (show 3 ∉ ([] : List Nat) by decide) rfl (.inl (by kernel_rfl))) (ja_cons (je_var (i := 0) (show 0 ∉ ([] : List Nat) by decide) rfl (.inl (by kernel_rfl))) (ja_cons (je_var (i := 1) (show 1 ∉ ([] : List Nat) by decide) rfl (.inl (by kernel_rfl))) ja_nil))))))) js_nil)
  (js_one (js_ret (je_cmp (Dn.op_eqX hr.units) opd_eq eqD_nx (by rfl) (je_op op_modN opd_mod modD_nx (je_op op_sub opd_sub subD_nx (je_var (i := 0) (show 0 ∉ ([] : List Nat) by decide) rfl (.inl (by kernel_rfl))) (je_var (i := 2) (show 2 ∉ ([] : List Nat) by decide) rfl (.inl (by kernel_rfl)))) (jc_call (h_divisor_0 E) hr (show 1 ≤ 1 + k + 1 by omega) rfl E.gf_divisor (fun _ _ => rfl) rfl (consA_len (consA_len nilA_len)) (ja_cons (je_var (i := 1) (show 1 ∉ ([] : List Nat) by decide) rfl (.inl (by kernel_rfl))) (ja_cons (je_var (i := 3) (show 3 ∉ ([] : List Nat) by decide) rfl (.inl (by kernel_rfl))) ja_nil)))) je_int))))))
theorem h_rows_touch_0 (E : MG w K mg) (k : Nat) : HeldD P w K mg base (1 + k + 1) (He.ga K "rows_touch") (spP (kx K (fnA K)) 4 false (F_rows_touch k)) [] := by
  obtain ⟨fd, F0⟩ := E.fd_rows_touch
  exact held_N F0 (fo_rows_touch E F0 (b_rows_touch F0) k) (b_rows_touch F0)
theorem b_is_laying {fd : FuncData} (F : FunD K "is_laying" "is_laying" (defArgs s_is_laying) (defBody s_is_laying) (defScope s_is_laying) [] [] (He.ga K "is_laying") fd) : L2.Binds K fd ["thing"] [] := F.bindsN fun _ _ _ _ _ _ us hl => match us, hl with | [_], _ => rfl
theorem fo_is_laying (E : MG w K mg) {fd : FuncData} (F : FunD K "is_laying" "is_laying" (defArgs s_is_laying) (defBody s_is_laying) (defScope s_is_laying) [] [] (He.ga K "is_laying") fd) : FnOk P w K mg base CX0 5 (He.ga K "is_laying") fd ["thing"] (spP (kx K (fnA K)) 1 false F_is_laying) := by
  refine fn_P (lv := 4) (n := 1) (NN := 5) (nw := false) (own := []) (fb := m_is_laying) (k := kx K (fnA K)) (N := N_is_laying) F sc_is_laying rfl rfl (by decide) (fun cdv A outer s H E' M H0 W hr => ?_)
  unfold m_is_laying
  exact (js_cons (js_if (PW.pt (jw_or (jt_not (jt_tru rfl (je_isi isiTup rfl rfl E.fr_isinstance rfl E.fr_tuple PyProof.Rows.boot_tuple (je_var (i := 0) (show 0 ∉ ([] : List Nat) by decide) rfl (.inr (.inl (by kernel_rfl))))))) (jw_or (jt_cmp op_gt opd_gt gtD_nx (by rfl) (je_callB call_lenX cad_len lenD_nx rfl E.fr_len PySem.boot_len (ja_cons (je_var (i := 0) (show 0 ∉ ([] : List Nat) by decide) rfl (.inr (.inl (by kernel_rfl)))) ja_nil)) (je_gi E.gi_MOST_ROWS rfl)) (jw_or1 (jt_not (jt_tru rfl (je_callB (cr_all rfl) cad_all allD_nx rfl E.fr_all PyProof.Rows.boot_all (ja_cons (je_of (jf_lc (own := [("row", 3)]) rfl sc_is_laying.nd (okv_P rfl (show ∀ v ∈ ([3] : List Nat), v ∉ ([] : List Nat) by decide)) (ji_seq rfl (je_var (i := 0) (show 0 ∉ ([] : List Nat) by decide) rfl (.inr (.inl (by kernel_rfl))))) (blkOk_by (own := [("row", 3)]) (N := N_is_laying) (sc := defScope s_is_laying) (by decide +kernel)) (fun _ _ _ _ _ _ => (jv_name (i := 3) (by decide) (show 3 ∉ ([] : List Nat) by decide) (free_P rfl) sc_is_laying.nd rfl (.inl (by kernel_rfl)) (.inr (by kernel_rfl)))) (fun _ _ _ _ _ _ => jts_nil) (fun _ _ _ _ _ _ => (jc_call (h_is_row_0 E) hr (show 2 ≤ 4 by decide) rfl E.gf_is_row (fun _ _ => rfl) rfl (consA_len nilA_len) (ja_cons (je_var (i := 3) (show 3 ∉ ([] : List Nat) by decide) rfl (.inl (by kernel_rfl))) ja_nil))))) ja_nil)))))))) (js_one (js_ret je_bl)) js_nil)
  (js_cons (js_if (jt_cmp op_gt opd_gt gtD_nx (by rfl) (jc_call (h_common_0 E) hr (show 2 ≤ 4 by decide) rfl E.gf_common (fun _ _ => rfl) rfl (consA_len nilA_len) (ja_cons (je_of (jf_lc (own := [("row", 3)]) rfl sc_is_laying.nd (okv_P rfl (show ∀ v ∈ ([3] : List Nat), v ∉ ([] : List Nat) by decide)) (ji_seq rfl (je_var (i := 0) (show 0 ∉ ([] : List Nat) by decide) rfl (.inr (.inl (by kernel_rfl))))) (blkOk_by (own := [("row", 3)]) (N := N_is_laying) (sc := defScope s_is_laying) (by decide +kernel)) (fun _ _ _ _ _ _ => (jv_name (i := 3) (by decide) (show 3 ∉ ([] : List Nat) by decide) (free_P rfl) sc_is_laying.nd rfl (.inl (by kernel_rfl)) (.inr (by kernel_rfl)))) (fun _ _ _ _ _ _ => (jts_one (jt_cmp op_gt opd_gt gtD_nx (by rfl) (je_ix rfl (fun _ _ => rfl) (je_var (i := 3) (show 3 ∉ ([] : List Nat) by decide) rfl (.inl (by kernel_rfl))) je_int) je_int))) (fun _ _ _ _ _ _ => (je_ix rfl (fun _ _ => rfl) (je_var (i := 3) (show 3 ∉ ([] : List Nat) by decide) rfl (.inl (by kernel_rfl))) je_int)))) ja_nil)) (je_gi E.gi_MOST_STEP rfl)) (js_one (js_ret je_bl)) js_nil)
  (js_cons (js_setLc2 (i := 1) (own := [("place", 2), ("row", 3), ("mate", 4)]) (.inl ⟨(show 1 ∉ ([] : List Nat) by decide), (free_P rfl)⟩) rfl sc_is_laying.nd rfl (by kernel_rfl) (sw_true rfl (by kernel_rfl) rfl (by kernel_rfl)) (okv_P rfl (show ∀ v ∈ ([2, 3, 4] : List Nat), v ∉ ([] : List Nat) by decide)) (vs1 := [4]) (show ∀ v ∈ ([4] : List Nat), v ∈ ([2, 3, 4] : List Nat) by decide) (ji_enum rfl rfl E.fr_enumerate (ja_cons (je_var (i := 0) (show 0 ∉ ([] : List Nat) by decide) rfl (.inr (.inl (by kernel_rfl)))) ja_nil)) (blkOk_by (own := [("place", 2), ("row", 3), ("mate", 4)]) (N := N_is_laying) (sc := defScope s_is_laying) (by decide +kernel)) (fun _ _ _ _ _ _ => (jv_tup rfl rfl (jvs_cons (jv_name (i := 2) (by decide) (show 2 ∉ ([] : List Nat) by decide) (free_P rfl) sc_is_laying.nd rfl (.inl (by kernel_rfl)) (.inr (by kernel_rfl))) (jvs_cons (jv_name (i := 3) (by decide) (show 3 ∉ ([] : List Nat) by decide) (free_P rfl) sc_is_laying.nd rfl (.inl (by kernel_rfl)) (.inr (by kernel_rfl))) jvs_nil)))) (fun _ _ _ _ _ _ => jts_nil) (fun _ _ _ _ _ _ => (ji_seq rfl (je_sli rfl (je_var (i := 0) (show 0 ∉ ([] : List Nat) by decide) rfl (.inr (.inl (by kernel_rfl)))) jo_none (jo_some (je_var (i := 2) (show 2 ∉ ([] : List Nat) by decide) rfl (.inl (by kernel_rfl))))))) (fun _ _ _ _ _ _ => (jv_name (i := 4) (by decide) (show 4 ∉ ([] : List Nat) by decide) (free_P rfl) sc_is_laying.nd rfl (.inl (by kernel_rfl)) (.inr (by kernel_rfl)))) (fun _ _ _ _ _ _ => jts_nil) (fun _ _ _ _ _ _ => (je_tup (ja_cons (je_var (i := 3) (show 3 ∉ ([] : List Nat) by decide) rfl (.inl (by kernel_rfl))) (ja_cons (je_var (i := 4) (show 4 ∉ ([] : List Nat) by decide) rfl (.inl (by kernel_rfl))) ja_nil)))))
  (js_one (js_ret (je_not (je_callB (cr_any rfl) cad_any anyD_nx rfl E.fr_any PyProof.Rows.boot_any (ja_cons (je_of (jf_lc (own := [("row", 3), ("mate", 4)]) rfl sc_is_laying.nd (okv_P rfl (show ∀ v ∈ ([3, 4] : List Nat), v ∉ ([] : List Nat) by decide)) (ji_seq rfl (je_var (i := 1) (show 1 ∉ ([] : List Nat) by decide) rfl (.inl (by kernel_rfl)))) (blkOk_by (own := [("row", 3), ("mate", 4)]) (N := N_is_laying) (sc := defScope s_is_laying) (by decide +kernel)) (fun _ _ _ _ _ _ => (jv_tup rfl rfl (jvs_cons (jv_name (i := 3) (by decide) (show 3 ∉ ([] : List Nat) by decide) (free_P rfl) sc_is_laying.nd rfl (.inl (by kernel_rfl)) (.inr (by kernel_rfl))) (jvs_cons (jv_name (i := 4) (by decide) (show 4 ∉ ([] : List Nat) by decide) (free_P rfl) sc_is_laying.nd rfl (.inl (by kernel_rfl)) (.inr (by kernel_rfl))) jvs_nil)))) (fun _ _ _ _ _ _ => jts_nil) (fun _ _ _ _ _ _ => (je_or (jc_call (h_rows_touch_0 E 2) hr (show 1 + 2 + 1 ≤ 4 by decide) rfl E.gf_rows_touch (fun _ _ => rfl) rfl (consA_len (consA_len (consA_len (consA_len nilA_len)))) (ja_cons (je_ix rfl (fun _ _ => rfl) (je_var (i := 3) (show 3 ∉ ([] : List Nat) by decide) rfl (.inl (by kernel_rfl))) je_int) (ja_cons (je_ix rfl (fun _ _ => rfl) (je_var (i := 3) (show 3 ∉ ([] : List Nat) by decide) rfl (.inl (by kernel_rfl))) je_int) (ja_cons (je_ix rfl (fun _ _ => rfl) (je_var (i := 4) (show 4 ∉ ([] : List Nat) by decide) rfl (.inl (by kernel_rfl))) je_int) (ja_cons (je_ix rfl (fun _ _ => rfl) (je_var (i := 4) (show 4 ∉ ([] : List Nat) by decide) rfl (.inl (by kernel_rfl))) je_int) ja_nil))))) (je_one (jc_call (h_rows_touch_0 E 2) hr (show 1 + 2 + 1 ≤ 4 by decide) rfl E.gf_rows_touch (fun _ _ => rfl) rfl (consA_len (consA_len (consA_len (consA_len nilA_len)))) (ja_cons (je_ix rfl (fun _ _ => rfl) (je_var (i := 3) (show 3 ∉ ([] : List Nat) by decide) rfl (.inl (by kernel_rfl))) je_int) (ja_cons (je_ix rfl (fun _ _ => rfl) (je_var (i := 3) (show 3 ∉ ([] : List Nat) by decide) rfl (.inl (by kernel_rfl))) je_int) (ja_cons (je_ix rfl (fun _ _ => rfl) (je_var (i := 4) (show 4 ∉ ([] : List Nat) by decide) rfl (.inl (by kernel_rfl))) je_int) (ja_cons (je_ix rfl (fun _ _ => rfl) (je_var (i := 4) (show 4 ∉ ([] : List Nat) by decide) rfl (.inl (by kernel_rfl))) je_int) ja_nil)))))))))) ja_nil))))))))
theorem h_is_laying_0 (E : MG w K mg) : HeldD P w K mg base 5 (He.ga K "is_laying") (spP (kx K (fnA K)) 1 false F_is_laying) [] := by
  obtain ⟨fd, F0⟩ := E.fd_is_laying
  exact held_N F0 (fo_is_laying E F0) (b_is_laying F0)
theorem b_claim_lies {fd : FuncData} (F : FunD K "claim_lies" "claim_lies" (defArgs s_claim_lies) (defBody s_claim_lies) (defScope s_claim_lies) [] [] (He.ga K "claim_lies") fd) : L2.Binds K fd ["claim", "paper"] [] := F.bindsN fun _ _ _ _ _ _ us hl => match us, hl with | [_, _], _ => rfl
theorem fo_claim_lies (E : MG w K mg) {fd : FuncData} (F : FunD K "claim_lies" "claim_lies" (defArgs s_claim_lies) (defBody s_claim_lies) (defScope s_claim_lies) [] [] (He.ga K "claim_lies") fd) : FnOk P w K mg base CX0 6 (He.ga K "claim_lies") fd ["claim", "paper"] (spP (kx K (fnA K)) 2 false F_claim_lies) := by
  refine fn_P (lv := 5) (n := 2) (NN := 10) (nw := false) (own := []) (fb := m_claim_lies) (k := kx K (fnA K)) (N := N_claim_lies) F sc_claim_lies rfl rfl (by decide) (fun cdv A outer s H E' M H0 W hr => ?_)
  unfold m_claim_lies
  exact (js_cons (js_asg (je_var (i := 0) (show 0 ∉ ([] : List Nat) by decide) rfl (.inl (by kernel_rfl))) (jg_tup rfl rfl (jgs_cons (jg_name (i := 2) (show 2 ∉ ([] : List Nat) by decide) (free_P rfl) sc_claim_lies.nd rfl (.inl (by kernel_rfl)) (.inl rfl)) (jgs_cons (jg_name (i := 3) (show 3 ∉ ([] : List Nat) by decide) (free_P rfl) sc_claim_lies.nd rfl (.inl (by kernel_rfl)) (.inl rfl)) (jgs_cons (jg_name (i := 4) (show 4 ∉ ([] : List Nat) by decide) (free_P rfl) sc_claim_lies.nd rfl (.inl (by kernel_rfl)) (.inl rfl)) jgs_nil)))) (tupG_nx (consG_nx (nmG_nx 2) (consG_nx (nmG_nx 3) (consG_nx (nmG_nx 4) nilG_nx)))))
  (js_cons (js_if (PW.pt (jw_or (jt_not (jt_tru rfl (jc_call (h_is_laying_0 E) hr (show 5 ≤ 5 by decide) rfl E.gf_is_laying (fun _ _ => rfl) rfl (consA_len nilA_len) (ja_cons (je_var (i := 2) (show 2 ∉ ([] : List Nat) by decide) rfl (.inl (by kernel_rfl))) ja_nil)))) (jw_or (jt_not (jt_tru rfl (jc_call (h_is_count_0 E) hr (show 1 ≤ 5 by decide) rfl E.gf_is_count (fun _ _ => ⟨_, _, rfl, rfl, ⟨_, _, rfl, rfl, rfl⟩⟩) rfl (consA_len nilA_len) (ja_cons (je_var (i := 3) (show 3 ∉ ([] : List Nat) by decide) rfl (.inl (by kernel_rfl))) ja_nil)))) (jw_or1 (jt_not (jt_tru rfl (jc_call (h_is_count_0 E) hr (show 1 ≤ 5 by decide) rfl E.gf_is_count (fun _ _ => ⟨_, _, rfl, rfl, ⟨_, _, rfl, rfl, rfl⟩⟩) rfl (consA_len nilA_len) (ja_cons (je_var (i := 4) (show 4 ∉ ([] : List Nat) by decide) rfl (.inl (by kernel_rfl))) ja_nil)))))))) (js_one (js_ret je_bl)) js_nil)
  (js_cons (js_if (PW.pt (jw_or (jt_not (jt_tru rfl (je_isi isiTup rfl rfl E.fr_isinstance rfl E.fr_tuple PyProof.Rows.boot_tuple (je_var (i := 1) (show 1 ∉ ([] : List Nat) by decide) rfl (.inl (by kernel_rfl)))))) (jw_or (jt_cmp (Dn.op_neX hr.units) opd_ne neD_nx (by rfl) (je_callB call_lenX cad_len lenD_nx rfl E.fr_len PySem.boot_len (ja_cons (je_var (i := 1) (show 1 ∉ ([] : List Nat) by decide) rfl (.inl (by kernel_rfl))) ja_nil)) je_int) (jw_or1 (jt_not (jt_tru rfl (je_callB (cr_all rfl) cad_all allD_nx rfl E.fr_all PyProof.Rows.boot_all (ja_cons (je_of (jf_lc (own := [("part", 9)]) rfl sc_claim_lies.nd (okv_P rfl (show ∀ v ∈ ([9] : List Nat), v ∉ ([] : List Nat) by decide)) (ji_seq rfl (je_var (i := 1) (show 1 ∉ ([] : List Nat) by decide) rfl (.inl (by kernel_rfl)))) (blkOk_by (own := [("part", 9)]) (N := N_claim_lies) (sc := defScope s_claim_lies) (by decide +kernel)) (fun _ _ _ _ _ _ => (jv_name (i := 9) (by decide) (show 9 ∉ ([] : List Nat) by decide) (free_P rfl) sc_claim_lies.nd rfl (.inl (by kernel_rfl)) (.inr (by kernel_rfl)))) (fun _ _ _ _ _ _ => jts_nil) (fun _ _ _ _ _ _ => (jc_call (h_is_count_0 E) hr (show 1 ≤ 5 by decide) rfl E.gf_is_count (fun _ _ => ⟨_, _, rfl, rfl, ⟨_, _, rfl, rfl, rfl⟩⟩) rfl (consA_len nilA_len) (ja_cons (je_var (i := 9) (show 9 ∉ ([] : List Nat) by decide) rfl (.inl (by kernel_rfl))) ja_nil))))) ja_nil)))))))) (js_one (js_ret je_bl)) js_nil)
  (js_cons (js_if (jt_cmp op_ge opd_ge geD_nx (by rfl) (je_ix rfl (fun _ _ => rfl) (je_var (i := 1) (show 1 ∉ ([] : List Nat) by decide) rfl (.inl (by kernel_rfl))) je_int) (je_callB call_lenX cad_len lenD_nx rfl E.fr_len PySem.boot_len (ja_cons (je_var (i := 2) (show 2 ∉ ([] : List Nat) by decide) rfl (.inl (by kernel_rfl))) ja_nil))) (js_one (js_ret je_bl)) js_nil)
  (js_cons (js_asg (je_ix rfl (fun _ _ => rfl) (je_var (i := 2) (show 2 ∉ ([] : List Nat) by decide) rfl (.inl (by kernel_rfl))) (je_ix rfl (fun _ _ => rfl) (je_var (i := 1) (show 1 ∉ ([] : List Nat) by decide) rfl (.inl (by kernel_rfl))) je_int)) (jg_tup rfl rfl (jgs_cons (jg_name (i := 5) (show 5 ∉ ([] : List Nat) by decide) (free_P rfl) sc_claim_lies.nd rfl (.inl (by kernel_rfl)) (.inl rfl)) (jgs_cons (jg_name (i := 6) (show 6 ∉ ([] : List Nat) by decide) (free_P rfl) sc_claim_lies.nd rfl (.inl (by kernel_rfl)) (.inl rfl)) (jgs_cons (jg_name (i := 7) (show 7 ∉ ([] : List Nat) by decide) (free_P rfl) sc_claim_lies.nd rfl (.inl (by kernel_rfl)) (.inl rfl)) (jgs_cons (jg_name (i := 8) (show 8 ∉ ([] : List Nat) by decide) (free_P rfl) sc_claim_lies.nd rfl (.inl (by kernel_rfl)) (.inl rfl)) jgs_nil))))) (tupG_nx (consG_nx (nmG_nx 5) (consG_nx (nmG_nx 6) (consG_nx (nmG_nx 7) (consG_nx (nmG_nx 8) nilG_nx))))))
  (js_cons (js_if (PW.pt (jw_and (jt_cmp (Dn.op_eqX hr.units) opd_eq eqD_nx (by rfl) (je_var (i := 6) (show 6 ∉ ([] : List Nat) by decide) rfl (.inl (by kernel_rfl))) je_int) (jw_and1 (jt_cmp (Dn.op_neX hr.units) opd_ne neD_nx (by rfl) (je_ix rfl (fun _ _ => rfl) (je_var (i := 1) (show 1 ∉ ([] : List Nat) by decide) rfl (.inl (by kernel_rfl))) je_int) je_int)))) (js_one (js_ret je_bl)) js_nil)
  (js_one (js_ret (je_and (je_cmp (Dn.op_eqX hr.units) opd_eq eqD_nx (by rfl) (je_op Dn.op_addX opd_add addD_nx (je_var (i := 5) (show 5 ∉ ([] : List Nat) by decide) rfl (.inl (by kernel_rfl))) (je_op Dn.op_mulX opd_mul mulD_nx (je_var (i := 6) (show 6 ∉ ([] : List Nat) by decide) rfl (.inl (by kernel_rfl))) (je_ix rfl (fun _ _ => rfl) (je_var (i := 1) (show 1 ∉ ([] : List Nat) by decide) rfl (.inl (by kernel_rfl))) je_int))) (je_var (i := 3) (show 3 ∉ ([] : List Nat) by decide) rfl (.inl (by kernel_rfl)))) (je_one (je_cmp (Dn.op_eqX hr.units) opd_eq eqD_nx (by rfl) (je_op Dn.op_addX opd_add addD_nx (je_var (i := 7) (show 7 ∉ ([] : List Nat) by decide) rfl (.inl (by kernel_rfl))) (je_op Dn.op_mulX opd_mul mulD_nx (je_var (i := 8) (show 8 ∉ ([] : List Nat) by decide) rfl (.inl (by kernel_rfl))) (je_ix rfl (fun _ _ => rfl) (je_var (i := 1) (show 1 ∉ ([] : List Nat) by decide) rfl (.inl (by kernel_rfl))) je_int))) (je_var (i := 4) (show 4 ∉ ([] : List Nat) by decide) rfl (.inl (by kernel_rfl))))))))))))))
theorem b_row_misses {fd : FuncData} (F : FunD K "row_misses" "row_misses" (defArgs s_row_misses) (defBody s_row_misses) (defScope s_row_misses) [] [] (He.ga K "row_misses") fd) : L2.Binds K fd ["row", "room", "word"] [] := F.bindsN fun _ _ _ _ _ _ us hl => match us, hl with | [_, _, _], _ => rfl
theorem fo_row_misses (E : MG w K mg) {fd : FuncData} (F : FunD K "row_misses" "row_misses" (defArgs s_row_misses) (defBody s_row_misses) (defScope s_row_misses) [] [] (He.ga K "row_misses") fd) : FnOk P w K mg base CX0 1 (He.ga K "row_misses") fd ["row", "room", "word"] (spP (kx K (fnA K)) 3 false F_row_misses) := by
  refine fn_P (lv := 0) (n := 3) (NN := 3) (nw := false) (own := []) (fb := m_row_misses) (k := kx K (fnA K)) (N := N_row_misses) F sc_row_misses rfl rfl (by decide) (fun cdv A outer s H E' M H0 W hr => ?_)
  unfold m_row_misses
  exact (js_cons (js_if (jt_cmp (Dn.op_eqX hr.units) opd_eq eqD_nx (by rfl) (je_ix rfl (fun _ _ => rfl) (je_var (i := 0) (show 0 ∉ ([] : List Nat) by decide) rfl (.inl (by kernel_rfl))) je_int) je_int) (js_one (js_ret (je_and (je_cmp (Dn.op_eqX hr.units) opd_eq eqD_nx (by rfl) (je_var (i := 2) (show 2 ∉ ([] : List Nat) by decide) rfl (.inl (by kernel_rfl))) je_str) (je_one (je_cmp (Dn.op_neX hr.units) opd_ne neD_nx (by rfl) (je_ix rfl (fun _ _ => rfl) (je_var (i := 0) (show 0 ∉ ([] : List Nat) by decide) rfl (.inl (by kernel_rfl))) je_int) (je_var (i := 1) (show 1 ∉ ([] : List Nat) by decide) rfl (.inl (by kernel_rfl)))))))) js_nil)
  (js_one (js_ret (je_or (je_and (je_cmp (Dn.op_eqX hr.units) opd_eq eqD_nx (by rfl) (je_var (i := 2) (show 2 ∉ ([] : List Nat) by decide) rfl (.inl (by kernel_rfl))) je_str) (je_one (je_cmp op_gt opd_gt gtD_nx (by rfl) (je_ix rfl (fun _ _ => rfl) (je_var (i := 0) (show 0 ∉ ([] : List Nat) by decide) rfl (.inl (by kernel_rfl))) je_int) (je_var (i := 1) (show 1 ∉ ([] : List Nat) by decide) rfl (.inl (by kernel_rfl)))))) (je_one (je_and (je_cmp (Dn.op_eqX hr.units) opd_eq eqD_nx (by rfl) (je_var (i := 2) (show 2 ∉ ([] : List Nat) by decide) rfl (.inl (by kernel_rfl))) je_str) (je_one (je_cmp (Dn.op_neX hr.units) opd_ne neD_nx (by rfl) (je_op op_modN opd_mod modD_nx (je_op op_sub opd_sub subD_nx (je_var (i := 1) (show 1 ∉ ([] : List Nat) by decide) rfl (.inl (by kernel_rfl))) (je_ix rfl (fun _ _ => rfl) (je_var (i := 0) (show 0 ∉ ([] : List Nat) by decide) rfl (.inl (by kernel_rfl))) je_int)) (je_ix rfl (fun _ _ => rfl) (je_var (i := 0) (show 0 ∉ ([] : List Nat) by decide) rfl (.inl (by kernel_rfl))) je_int)) je_int))))))))
theorem h_row_misses_0 (E : MG w K mg) : HeldD P w K mg base 1 (He.ga K "row_misses") (spP (kx K (fnA K)) 3 false F_row_misses) [] := by
  obtain ⟨fd, F0⟩ := E.fd_row_misses
  exact held_N F0 (fo_row_misses E F0) (b_row_misses F0)
theorem b_is_free {fd : FuncData} (F : FunD K "is_free" "is_free" (defArgs s_is_free) (defBody s_is_free) (defScope s_is_free) [] [] (He.ga K "is_free") fd) : L2.Binds K fd ["claim", "paper"] [] := F.bindsN fun _ _ _ _ _ _ us hl => match us, hl with | [_, _], _ => rfl
theorem fo_is_free (E : MG w K mg) {fd : FuncData} (F : FunD K "is_free" "is_free" (defArgs s_is_free) (defBody s_is_free) (defScope s_is_free) [] [] (He.ga K "is_free") fd) : FnOk P w K mg base CX0 6 (He.ga K "is_free") fd ["claim", "paper"] (spP (kx K (fnA K)) 2 false F_is_free) := by
  refine fn_P (lv := 5) (n := 2) (NN := 6) (nw := false) (own := []) (fb := m_is_free) (k := kx K (fnA K)) (N := N_is_free) F sc_is_free rfl rfl (by decide) (fun cdv A outer s H E' M H0 W hr => ?_)
  unfold m_is_free
  exact (js_cons (js_asg (je_var (i := 0) (show 0 ∉ ([] : List Nat) by decide) rfl (.inl (by kernel_rfl))) (jg_tup rfl rfl (jgs_cons (jg_name (i := 2) (show 2 ∉ ([] : List Nat) by decide) (free_P rfl) sc_is_free.nd rfl (.inl (by kernel_rfl)) (.inl rfl)) (jgs_cons (jg_name (i := 3) (show 3 ∉ ([] : List Nat) by decide) (free_P rfl) sc_is_free.nd rfl (.inr (by kernel_rfl)) (.inl rfl)) jgs_nil))) (tupG_nx (consG_nx (nmG_nx 2) (consG_nx (nmG_nx 3) nilG_nx))))
  (js_cons (js_if (PW.pt (jw_or (jt_not (jt_tru rfl (jc_call (h_is_laying_0 E) hr (show 5 ≤ 5 by decide) rfl E.gf_is_laying (fun _ _ => rfl) rfl (consA_len nilA_len) (ja_cons (je_var (i := 2) (show 2 ∉ ([] : List Nat) by decide) rfl (.inl (by kernel_rfl))) ja_nil)))) (jw_or (jt_not (jt_tru rfl (jc_call (h_is_count_0 E) hr (show 1 ≤ 5 by decide) rfl E.gf_is_count (fun _ _ => ⟨_, _, rfl, rfl, ⟨_, _, rfl, rfl, rfl⟩⟩) rfl (consA_len nilA_len) (ja_cons (je_var (i := 3) (show 3 ∉ ([] : List Nat) by decide) rfl (.inr (.inl (by kernel_rfl)))) ja_nil)))) (jw_or (jt_not (jt_tru rfl (je_isi isiTup rfl rfl E.fr_isinstance rfl E.fr_tuple PyProof.Rows.boot_tuple (je_var (i := 1) (show 1 ∉ ([] : List Nat) by decide) rfl (.inl (by kernel_rfl)))))) (jw_or1 (jt_cmp (Dn.op_neX hr.units) opd_ne neD_nx (by rfl) (je_callB call_lenX cad_len lenD_nx rfl E.fr_len PySem.boot_len (ja_cons (je_var (i := 1) (show 1 ∉ ([] : List Nat) by decide) rfl (.inl (by kernel_rfl))) ja_nil)) (je_callB call_lenX cad_len lenD_nx rfl E.fr_len PySem.boot_len (ja_cons (je_var (i := 2) (show 2 ∉ ([] : List Nat) by decide) rfl (.inl (by kernel_rfl))) ja_nil)))))))) (js_one (js_ret je_bl)) js_nil)
  (js_one (js_ret (je_callB (cr_all rfl) cad_all allD_nx rfl E.fr_all PyProof.Rows.boot_all (ja_cons (je_of (jf_lc (own := [("row", 4), ("word", 5)]) rfl sc_is_free.nd (okv_P rfl (show ∀ v ∈ ([4, 5] : List Nat), v ∉ ([] : List Nat) by decide)) (ji_zip rfl rfl E.fr_zip (ja_cons (je_var (i := 2) (show 2 ∉ ([] : List Nat) by decide) rfl (.inl (by kernel_rfl))) (ja_cons (je_var (i := 1) (show 1 ∉ ([] : List Nat) by decide) rfl (.inl (by kernel_rfl))) ja_nil))) (blkOk_by (own := [("row", 4), ("word", 5)]) (N := N_is_free) (sc := defScope s_is_free) (by decide +kernel)) (fun _ _ _ _ _ _ => (jv_tup rfl rfl (jvs_cons (jv_name (i := 4) (by decide) (show 4 ∉ ([] : List Nat) by decide) (free_P rfl) sc_is_free.nd rfl (.inl (by kernel_rfl)) (.inr (by kernel_rfl))) (jvs_cons (jv_name (i := 5) (by decide) (show 5 ∉ ([] : List Nat) by decide) (free_P rfl) sc_is_free.nd rfl (.inl (by kernel_rfl)) (.inr (by kernel_rfl))) jvs_nil)))) (fun _ _ _ _ _ _ => jts_nil) (fun _ _ _ _ _ _ => (je_and (je_isi isiStr rfl rfl E.fr_isinstance rfl E.fr_str PyProof.Rows.boot_str (je_var (i := 5) (show 5 ∉ ([] : List Nat) by decide) rfl (.inl (by kernel_rfl)))) (je_one (jc_call (h_row_misses_0 E) hr (show 1 ≤ 5 by decide) rfl E.gf_row_misses (fun _ _ => rfl) rfl (consA_len (consA_len (consA_len nilA_len))) (ja_cons (je_var (i := 4) (show 4 ∉ ([] : List Nat) by decide) rfl (.inl (by kernel_rfl))) (ja_cons (je_var (i := 3) (show 3 ∉ ([] : List Nat) by decide) rfl (.inr (.inl (by kernel_rfl)))) (ja_cons (je_var (i := 5) (show 5 ∉ ([] : List Nat) by decide) rfl (.inl (by kernel_rfl))) ja_nil))))))))) ja_nil))))))
theorem A_holds (E : MG w K mg) : ∀ j F fa, T_holds j = some F → (kx K (fnA K)).fn j = some fa → Held P w K mg base 6 fa (spP (kx K (fnA K)) 2 false F) := by
  intro j F fa h1 h2
  match j, h1, h2 with
  | 0, h1, h2 =>
    cases h1
    cases h2
    obtain ⟨fd, F0⟩ := E.fd_claim_lies
    exact ⟨fd, _, (fo_claim_lies E F0).mono (by decide), F0.kp, b_claim_lies F0⟩
  | 1, h1, h2 =>
    cases h1
    cases h2
    obtain ⟨fd, F0⟩ := E.fd_is_free
    exact ⟨fd, _, (fo_is_free E F0).mono (by decide), F0.kp, b_is_free F0⟩
  | _ + 2, h1, h2 => cases h1
theorem b_holds {fd : FuncData} (F : FunD K "holds" "holds" (defArgs s_holds) (defBody s_holds) (defScope s_holds) [] [] (He.ga K "holds") fd) : L2.Binds K fd ["claim", "paper"] [] := F.bindsN fun _ _ _ _ _ _ us hl => match us, hl with | [_, _], _ => rfl
theorem fo_holds (E : MG w K mg) {fd : FuncData} (F : FunD K "holds" "holds" (defArgs s_holds) (defBody s_holds) (defScope s_holds) [] [] (He.ga K "holds") fd) : FnOk P w K mg base CX0 7 (He.ga K "holds") fd ["claim", "paper"] (spP (kx K (fnA K)) 2 false F_holds) := by
  refine fn_P (lv := 6) (n := 2) (NN := 4) (nw := false) (own := []) (fb := m_holds) (k := kx K (fnA K)) (N := N_holds) F sc_holds rfl rfl (by decide) (fun cdv A outer s H E' M H0 W hr => ?_)
  unfold m_holds
  exact (js_cons (js_if (PW.pt (jw_or (jt_not (jt_tru rfl (je_isi isiTup rfl rfl E.fr_isinstance rfl E.fr_tuple PyProof.Rows.boot_tuple (je_var (i := 0) (show 0 ∉ ([] : List Nat) by decide) rfl (.inl (by kernel_rfl)))))) (jw_or (jt_not (jt_tru rfl (je_var (i := 0) (show 0 ∉ ([] : List Nat) by decide) rfl (.inl (by kernel_rfl))))) (jw_or (jt_not (jt_tru rfl (je_isi isiStr rfl rfl E.fr_isinstance rfl E.fr_str PyProof.Rows.boot_str (je_ix rfl (fun _ _ => rfl) (je_var (i := 0) (show 0 ∉ ([] : List Nat) by decide) rfl (.inl (by kernel_rfl))) je_int)))) (jw_or1 (jt_notInK rfl E.kt_CLAIMS rfl E.gt_CLAIMS (je_ix rfl (fun _ _ => rfl) (je_var (i := 0) (show 0 ∉ ([] : List Nat) by decide) rfl (.inl (by kernel_rfl))) je_int))))))) (js_one (js_ret je_bl)) js_nil)
  (js_cons (js_asg (je_ixK rfl E.kt_CLAIMS rfl E.gt_CLAIMS (fun _ _ => rfl) (je_ix rfl (fun _ _ => rfl) (je_var (i := 0) (show 0 ∉ ([] : List Nat) by decide) rfl (.inl (by kernel_rfl))) je_int)) (jg_tup rfl rfl (jgs_cons (jg_name (i := 2) (show 2 ∉ ([] : List Nat) by decide) (free_P rfl) sc_holds.nd rfl (.inl (by kernel_rfl)) (.inl rfl)) (jgs_cons (jg_name (i := 3) (show 3 ∉ ([] : List Nat) by decide) (free_P rfl) sc_holds.nd rfl (.inl (by kernel_rfl)) (.inl rfl)) jgs_nil))) (tupG_nx (consG_nx (nmG_nx 2) (consG_nx (nmG_nx 3) nilG_nx))))
  (js_one (js_ret (je_and (je_cmp (Dn.op_eqX hr.units) opd_eq eqD_nx (by rfl) (je_callB call_lenX cad_len lenD_nx rfl E.fr_len PySem.boot_len (ja_cons (je_var (i := 0) (show 0 ∉ ([] : List Nat) by decide) rfl (.inl (by kernel_rfl))) ja_nil)) (je_var (i := 2) (show 2 ∉ ([] : List Nat) by decide) rfl (.inl (by kernel_rfl)))) (je_one (je_callA (i := 3) (lv := 6) (A_holds E) hr (show 3 ∉ ([] : List Nat) by decide) rfl (.inl (by kernel_rfl)) rfl (consA_len (consA_len nilA_len)) (ja_cons (je_sli rfl (je_var (i := 0) (show 0 ∉ ([] : List Nat) by decide) rfl (.inl (by kernel_rfl))) (jo_some je_int) jo_none) (ja_cons (je_var (i := 1) (show 1 ∉ ([] : List Nat) by decide) rfl (.inl (by kernel_rfl))) ja_nil)))))))))
theorem h_holds_0 (E : MG w K mg) : HeldD P w K mg base 7 (He.ga K "holds") (spP (kx K (fnA K)) 2 false F_holds) [] := by
  obtain ⟨fd, F0⟩ := E.fd_holds
  exact held_N F0 (fo_holds E F0) (b_holds F0)
theorem h_holds_k0_paper_claim (E : MG w K mg) : HeldK P w K mg base 7 (He.ga K "holds") (spP (kx K (fnA K)) 2 false F_holds) 0 ["paper", "claim"] (fun vs zs => vs ++ zs.reverse) := by
  obtain ⟨fd, F0⟩ := E.fd_holds
  exact held_K F0 (fo_holds E F0) (kbindsNo (ps := ["claim", "paper"]) F0 0 ["paper", "claim"] (fun {α} (vs zs : List α) =>  vs ++ zs.reverse) (fun r1 r2 => r1.append (Vals.rev r2)) fun _ _ _ _ _ _ us ws hl hw => match us, ws, hl, hw with | [], [_, _], _, _ => rfl)
theorem b__law_taken {fd : FuncData} (F : FunD K "_law_taken" "_law_taken" (defArgs s__law_taken) (defBody s__law_taken) (defScope s__law_taken) [] [] (He.ga K "_law_taken") fd) : L2.Binds K fd ["_law_say_so", "_law_sheet", "_law_due_here"] [] := F.bindsN fun _ _ _ _ _ _ us hl => match us, hl with | [_, _, _], _ => rfl
theorem fo__law_taken (E : MG w K mg) {fd : FuncData} (F : FunD K "_law_taken" "_law_taken" (defArgs s__law_taken) (defBody s__law_taken) (defScope s__law_taken) [] [] (He.ga K "_law_taken") fd) : FnOk P w K mg base CX0 8 (He.ga K "_law_taken") fd ["_law_say_so", "_law_sheet", "_law_due_here"] (spP (kx K (fnA K)) 3 false F__law_taken) := by
  refine fn_P (lv := 7) (n := 3) (NN := 5) (nw := false) (own := []) (fb := m__law_taken) (k := kx K (fnA K)) (N := N__law_taken) F sc__law_taken rfl rfl (by decide) (fun cdv A outer s H E' M H0 W hr => ?_)
  unfold m__law_taken
  exact (js_cons (js_set (i := 3) (show 3 ∉ ([] : List Nat) by decide) (free_P rfl) sc__law_taken.nd rfl (.inl (by kernel_rfl)) (.inl rfl) (je_lst (ja_cons (jc_call (h_holds_0 E) hr (show 7 ≤ 7 by decide) rfl E.gf_holds (fun _ _ => rfl) rfl (consA_len (consA_len nilA_len)) (ja_cons (je_var (i := 0) (show 0 ∉ ([] : List Nat) by decide) rfl (.inl (by kernel_rfl))) (ja_cons (je_var (i := 1) (show 1 ∉ ([] : List Nat) by decide) rfl (.inl (by kernel_rfl))) ja_nil))) (ja_cons (jc_callK0 (g := (fun ds es => ds ++ es.reverse)) (h_holds_k0_paper_claim E) hr (show 7 ≤ 7 by decide) rfl E.gf_holds (fun _ _ _ _ _ _ _ h1 h2 => h1.app h2.rev) (fun ds es h1 h2 => by simp [h1, h2]) (consA_len (consA_len nilA_len)) (jk_cons (je_var (i := 1) (show 1 ∉ ([] : List Nat) by decide) rfl (.inl (by kernel_rfl))) (jk_cons (je_var (i := 0) (show 0 ∉ ([] : List Nat) by decide) rfl (.inl (by kernel_rfl))) jk_nil))) ja_nil))))
  (js_one (js_ret (je_callB (cr_all rfl) cad_all allD_nx rfl E.fr_all PyProof.Rows.boot_all (ja_cons (je_of (jf_lc (own := [("_law_one", 4)]) rfl sc__law_taken.nd (okv_P rfl (show ∀ v ∈ ([4] : List Nat), v ∉ ([] : List Nat) by decide)) (ji_seq rfl (je_var (i := 3) (show 3 ∉ ([] : List Nat) by decide) rfl (.inl (by kernel_rfl)))) (blkOk_by (own := [("_law_one", 4)]) (N := N__law_taken) (sc := defScope s__law_taken) (by decide +kernel)) (fun _ _ _ _ _ _ => (jv_name (i := 4) (by decide) (show 4 ∉ ([] : List Nat) by decide) (free_P rfl) sc__law_taken.nd rfl (.inl (by kernel_rfl)) (.inr (by kernel_rfl)))) (fun _ _ _ _ _ _ => jts_nil) (fun _ _ _ _ _ _ => (je_and (je_isi isiBool rfl rfl E.fr_isinstance rfl E.fr_bool PyProof.Rows.boot_bool (je_var (i := 4) (show 4 ∉ ([] : List Nat) by decide) rfl (.inl (by kernel_rfl)))) (je_one (je_cmp (Dn.op_eqX hr.units) opd_eq eqD_nx (by rfl) (je_var (i := 4) (show 4 ∉ ([] : List Nat) by decide) rfl (.inl (by kernel_rfl))) (je_var (i := 2) (show 2 ∉ ([] : List Nat) by decide) rfl (.inr (.inl (by kernel_rfl)))))))))) ja_nil)))))
theorem h__law_taken_0 (E : MG w K mg) : HeldD P w K mg base 8 (He.ga K "_law_taken") (spP (kx K (fnA K)) 3 false F__law_taken) [] := by
  obtain ⟨fd, F0⟩ := E.fd__law_taken
  exact held_N F0 (fo__law_taken E F0) (b__law_taken F0)
theorem b__law_by_hand {fd : FuncData} (F : FunD K "_law_by_hand" "_law_by_hand" (defArgs s__law_by_hand) (defBody s__law_by_hand) (defScope s__law_by_hand) [] [] (He.ga K "_law_by_hand") fd) : L2.Binds K fd [] [] := F.bindsN fun _ _ _ _ _ _ us hl => match us, hl with | [], _ => rfl
theorem fo__law_by_hand (E : MG w K mg) {fd : FuncData} (F : FunD K "_law_by_hand" "_law_by_hand" (defArgs s__law_by_hand) (defBody s__law_by_hand) (defScope s__law_by_hand) [] [] (He.ga K "_law_by_hand") fd) : FnOk P w K mg base CX0 9 (He.ga K "_law_by_hand") fd [] (spP (kx K (fnA K)) 0 false F__law_by_hand) := by
  refine fn_P (lv := 8) (n := 0) (NN := 3) (nw := false) (own := []) (fb := m__law_by_hand) (k := kx K (fnA K)) (N := N__law_by_hand) F sc__law_by_hand rfl rfl (by decide) (fun cdv A outer s H E' M H0 W hr => ?_)
  unfold m__law_by_hand
  exact (js_cons (js_set (i := 0) (show 0 ∉ ([] : List Nat) by decide) (free_P rfl) sc__law_by_hand.nd rfl (.inl (by kernel_rfl)) (.inl rfl) (je_op op_pow opd_pow powD_nx je_int je_int))
  (js_cons (js_set (i := 1) (show 1 ∉ ([] : List Nat) by decide) (free_P rfl) sc__law_by_hand.nd rfl (.inl (by kernel_rfl)) (.inl rfl) (je_tup (ja_cons (je_tup (ja_cons je_int (ja_cons je_int (ja_cons je_int (ja_cons (je_op Dn.op_addX opd_add addD_nx (je_var (i := 0) (show 0 ∉ ([] : List Nat) by decide) rfl (.inl (by kernel_rfl))) je_int) ja_nil))))) (ja_cons (je_tup (ja_cons je_int (ja_cons je_int (ja_cons (je_op op_sub opd_sub subD_nx (je_var (i := 0) (show 0 ∉ ([] : List Nat) by decide) rfl (.inl (by kernel_rfl))) je_int) (ja_cons (je_var (i := 0) (show 0 ∉ ([] : List Nat) by decide) rfl (.inl (by kernel_rfl))) ja_nil))))) ja_nil))))
  (js_cons (js_set (i := 2) (show 2 ∉ ([] : List Nat) by decide) (free_P rfl) sc__law_by_hand.nd rfl (.inl (by kernel_rfl)) (.inl rfl) (je_tup (ja_cons (je_tup (ja_cons je_int (ja_cons je_int (ja_cons je_int (ja_cons (je_op Dn.op_mulX opd_mul mulD_nx je_int (je_var (i := 0) (show 0 ∉ ([] : List Nat) by decide) rfl (.inl (by kernel_rfl)))) ja_nil))))) (ja_cons (je_tup (ja_cons je_int (ja_cons je_int (ja_cons je_int (ja_cons (je_op Dn.op_addX opd_add addD_nx (je_op Dn.op_mulX opd_mul mulD_nx je_int (je_var (i := 0) (show 0 ∉ ([] : List Nat) by decide) rfl (.inl (by kernel_rfl)))) je_int) ja_nil))))) ja_nil))))
  (js_one (js_ret (je_and (jc_call (h__law_taken_0 E) hr (show 8 ≤ 8 by decide) rfl E.gf__law_taken (fun _ _ => rfl) rfl (consA_len (consA_len (consA_len nilA_len))) (ja_cons (je_tup (ja_cons je_str (ja_cons (je_var (i := 1) (show 1 ∉ ([] : List Nat) by decide) rfl (.inl (by kernel_rfl))) (ja_cons je_int (ja_cons je_int ja_nil))))) (ja_cons (je_tup (ja_cons je_int (ja_cons je_int ja_nil))) (ja_cons je_bl ja_nil)))) (je_one (jc_call (h__law_taken_0 E) hr (show 8 ≤ 8 by decide) rfl E.gf__law_taken (fun _ _ => rfl) rfl (consA_len (consA_len (consA_len nilA_len))) (ja_cons (je_tup (ja_cons je_str (ja_cons (je_var (i := 2) (show 2 ∉ ([] : List Nat) by decide) rfl (.inl (by kernel_rfl))) (ja_cons je_int (ja_cons je_int ja_nil))))) (ja_cons (je_tup (ja_cons je_int (ja_cons je_int ja_nil))) (ja_cons je_bl ja_nil)))))))))))
theorem h__law_by_hand_0 (E : MG w K mg) : HeldD P w K mg base 9 (He.ga K "_law_by_hand") (spP (kx K (fnA K)) 0 false F__law_by_hand) [] := by
  obtain ⟨fd, F0⟩ := E.fd__law_by_hand
  exact held_N F0 (fo__law_by_hand E F0) (b__law_by_hand F0)
theorem b__law_take {fd : FuncData} (F : FunD K "_law_take" "_law_take" (defArgs s__law_take) (defBody s__law_take) (defScope s__law_take) [] [] (He.ga K "_law_take") fd) : L2.Binds K fd ["_law_purse_here", "_law_many"] [] := F.bindsN fun _ _ _ _ _ _ us hl => match us, hl with | [_, _], _ => rfl
theorem fo__law_take (E : MG w K mg) {fd : FuncData} (F : FunD K "_law_take" "_law_take" (defArgs s__law_take) (defBody s__law_take) (defScope s__law_take) [] [] (He.ga K "_law_take") fd) : FnOk P w K mg base CX0 1 (He.ga K "_law_take") fd ["_law_purse_here", "_law_many"] (spI (kx K (fnA K)) 2 false F__law_take) := by
  refine fn_I (lv := 0) (n := 2) (NN := 4) (nw := false) (own := [0]) (fb := m__law_take) (k := kx K (fnA K)) (N := N__law_take) F sc__law_take rfl rfl (by decide) (by decide) (by decide) (fun cdv A outer s H E' M H0 a hr => ?_)
  unfold m__law_take
  exact (js_cons (js_asg (je_op Dn.op_addX opd_add addD_nx (je_oix (i := 0) rfl (show 0 ∈ ([0] : List Nat) by decide) rfl (.inl (by kernel_rfl)) (fun _ _ => rfl) je_int) je_int) (jg_sub (i := 0) (show 0 ∈ ([0] : List Nat) by decide) rfl (.inl (by kernel_rfl)) je_int) (subG_nx (cst_nx _)))
  (js_cons (js_set (i := 2) (show 2 ∉ ([0] : List Nat) by decide) (free_I (show 0 ∈ ([0] : List Nat) by decide) (show (2 : Nat) ≠ 0 by decide)) sc__law_take.nd rfl (.inl (by kernel_rfl)) (.inl rfl) (je_oix (i := 0) rfl (show 0 ∈ ([0] : List Nat) by decide) rfl (.inl (by kernel_rfl)) (fun _ _ => rfl) je_int))
  (js_cons (js_asg (je_op op_modN opd_mod modD_nx (je_op Dn.op_addX opd_add addD_nx (je_op Dn.op_addX opd_add addD_nx (je_op Dn.op_mulX opd_mul mulD_nx (je_var (i := 2) (show 2 ∉ ([0] : List Nat) by decide) rfl (.inl (by kernel_rfl))) (je_op Dn.op_addX opd_add addD_nx (je_op op_modN opd_mod modD_nx (je_var (i := 2) (show 2 ∉ ([0] : List Nat) by decide) rfl (.inl (by kernel_rfl))) je_int) je_int)) (je_op Dn.op_mulX opd_mul mulD_nx je_int (je_oix (i := 0) rfl (show 0 ∈ ([0] : List Nat) by decide) rfl (.inl (by kernel_rfl)) (fun _ _ => rfl) je_int))) je_int) je_int) (jg_sub (i := 0) (show 0 ∈ ([0] : List Nat) by decide) rfl (.inl (by kernel_rfl)) je_int) (subG_nx (cst_nx _)))
  (js_cons (js_if (jt_cmp op_gt opd_gt gtD_nx (by rfl) (je_oix (i := 0) rfl (show 0 ∈ ([0] : List Nat) by decide) rfl (.inl (by kernel_rfl)) (fun _ _ => rfl) je_int) je_int) (js_cons (js_set (i := 3) (show 3 ∉ ([0] : List Nat) by decide) (free_I (show 0 ∈ ([0] : List Nat) by decide) (show (3 : Nat) ≠ 0 by decide)) sc__law_take.nd rfl (.inl (by kernel_rfl)) (.inl rfl) (je_op op_modN opd_mod modD_nx (je_oix (i := 0) rfl (show 0 ∈ ([0] : List Nat) by decide) rfl (.inl (by kernel_rfl)) (fun _ _ => rfl) je_int) (je_var (i := 1) (show 1 ∉ ([0] : List Nat) by decide) rfl (.inl (by kernel_rfl)))))
  (js_cons (js_asg (je_op Dn.op_divX opd_fdiv fdivD_nx (je_oix (i := 0) rfl (show 0 ∈ ([0] : List Nat) by decide) rfl (.inl (by kernel_rfl)) (fun _ _ => rfl) je_int) (je_var (i := 1) (show 1 ∉ ([0] : List Nat) by decide) rfl (.inl (by kernel_rfl)))) (jg_sub (i := 0) (show 0 ∈ ([0] : List Nat) by decide) rfl (.inl (by kernel_rfl)) je_int) (subG_nx (cst_nx _)))
  (js_one (js_ret (je_var (i := 3) (show 3 ∉ ([0] : List Nat) by decide) rfl (.inl (by kernel_rfl))))))) js_nil)
  (js_one (js_ret (je_op op_modN opd_mod modD_nx (je_op Dn.op_divX opd_fdiv fdivD_nx (je_oix (i := 0) rfl (show 0 ∈ ([0] : List Nat) by decide) rfl (.inl (by kernel_rfl)) (fun _ _ => rfl) je_int) je_int) (je_var (i := 1) (show 1 ∉ ([0] : List Nat) by decide) rfl (.inl (by kernel_rfl))))))))))
theorem h__law_take_0 (E : MG w K mg) : HeldD P w K mg base 1 (He.ga K "_law_take") (spI (kx K (fnA K)) 2 false F__law_take) [] := by
  obtain ⟨fd, F0⟩ := E.fd__law_take
  exact held_N F0 (fo__law_take E F0) (b__law_take F0)
theorem b__law_classes {fd : FuncData} (F : FunD K "_law_classes" "_law_classes" (defArgs s__law_classes) (defBody s__law_classes) (defScope s__law_classes) [] [] (He.ga K "_law_classes") fd) : L2.Binds K fd ["_law_purse_here", "_law_many"] [] := F.bindsN fun _ _ _ _ _ _ us hl => match us, hl with | [_, _], _ => rfl
theorem fo__law_classes (E : MG w K mg) {fd : FuncData} (F : FunD K "_law_classes" "_law_classes" (defArgs s__law_classes) (defBody s__law_classes) (defScope s__law_classes) [] [] (He.ga K "_law_classes") fd) : FnOk P w K mg base CX0 2 (He.ga K "_law_classes") fd ["_law_purse_here", "_law_many"] (spI (kx K (fnA K)) 2 true F__law_classes) := by
  refine fn_I (lv := 1) (n := 2) (NN := 10) (nw := true) (own := [0, 2]) (fb := m__law_classes) (k := kx K (fnA K)) (N := N__law_classes) F sc__law_classes rfl rfl (by decide) (by decide) (by decide) (fun cdv A outer s H E' M H0 a hr => ?_)
  unfold m__law_classes
  exact (js_cons (js_setO (i := 2) (show 2 ∈ ([0, 2] : List Nat) by decide) (free_I (show 0 ∈ ([0, 2] : List Nat) by decide) (show (2 : Nat) ≠ 0 by decide)) sc__law_classes.nd rfl (.inl (by kernel_rfl)) (.inl rfl) (jf_lst (ja_cons (je_tup (ja_cons je_int (ja_cons je_int ja_nil))) ja_nil)))
  (js_cons (js_for (nmG_nx 3) PassesOwn.never rfl (ji_rng1 rfl E.fr_range (ja_cons (je_var (i := 1) (show 1 ∉ ([0, 2] : List Nat) by decide) rfl (.inl (by kernel_rfl))) ja_nil)) (jg_name (i := 3) (show 3 ∉ ([0, 2] : List Nat) by decide) (free_I (show 0 ∈ ([0, 2] : List Nat) by decide) (show (3 : Nat) ≠ 0 by decide)) sc__law_classes.nd rfl (.inl (by kernel_rfl)) (.inl rfl))
  (js_cons (js_asg (je_tup (ja_cons (jc_callI (i := 0) rfl (h__law_take_0 E) hr (show 1 ≤ 1 by decide) rfl E.gf__law_take rfl (consA_len nilA_len) (show 0 ∈ ([0, 2] : List Nat) by decide) rfl (.inl (by kernel_rfl)) (ja_cons (je_callBO (i := 2) call_lenX cad_len lenD_nx (show 2 ∈ ([0, 2] : List Nat) by decide) rfl (.inl (by kernel_rfl)) rfl E.fr_len PySem.boot_len) ja_nil)) (ja_cons (je_op Dn.op_addX opd_add addD_nx je_int (jc_callI (i := 0) rfl (h__law_take_0 E) hr (show 1 ≤ 1 by decide) rfl E.gf__law_take rfl (consA_len nilA_len) (show 0 ∈ ([0, 2] : List Nat) by decide) rfl (.inl (by kernel_rfl)) (ja_cons je_int ja_nil))) ja_nil))) (jg_tup rfl rfl (jgs_cons (jg_name (i := 4) (show 4 ∉ ([0, 2] : List Nat) by decide) (free_I (show 0 ∈ ([0, 2] : List Nat) by decide) (show (4 : Nat) ≠ 0 by decide)) sc__law_classes.nd rfl (.inl (by kernel_rfl)) (.inl rfl)) (jgs_cons (jg_name (i := 5) (show 5 ∉ ([0, 2] : List Nat) by decide) (free_I (show 0 ∈ ([0, 2] : List Nat) by decide) (show (5 : Nat) ≠ 0 by decide)) sc__law_classes.nd rfl (.inr (by kernel_rfl)) (.inl rfl)) jgs_nil))) (tupG_nx (consG_nx (nmG_nx 4) (consG_nx (nmG_nx 5) nilG_nx))))
  (js_cons (js_asg (je_oix (i := 2) rfl (show 2 ∈ ([0, 2] : List Nat) by decide) rfl (.inl (by kernel_rfl)) (fun _ _ => rfl) (je_var (i := 4) (show 4 ∉ ([0, 2] : List Nat) by decide) rfl (.inl (by kernel_rfl)))) (jg_tup rfl rfl (jgs_cons (jg_name (i := 6) (show 6 ∉ ([0, 2] : List Nat) by decide) (free_I (show 0 ∈ ([0, 2] : List Nat) by decide) (show (6 : Nat) ≠ 0 by decide)) sc__law_classes.nd rfl (.inr (by kernel_rfl)) (.inl rfl)) (jgs_cons (jg_name (i := 7) (show 7 ∉ ([0, 2] : List Nat) by decide) (free_I (show 0 ∈ ([0, 2] : List Nat) by decide) (show (7 : Nat) ≠ 0 by decide)) sc__law_classes.nd rfl (.inr (by kernel_rfl)) (.inl rfl)) jgs_nil))) (tupG_nx (consG_nx (nmG_nx 6) (consG_nx (nmG_nx 7) nilG_nx))))
  (js_one (js_if (jt_cmp (Dn.op_eqX hr.units) opd_eq eqD_nx (by rfl) (je_op op_modN opd_mod modD_nx je_int (je_op Dn.op_mulX opd_mul mulD_nx (je_var (i := 7) (show 7 ∉ ([0, 2] : List Nat) by decide) rfl (.inr (.inl (by kernel_rfl)))) (je_var (i := 5) (show 5 ∉ ([0, 2] : List Nat) by decide) rfl (.inr (.inl (by kernel_rfl)))))) je_int) (js_cons (js_setLc (i := 8) (own := [("_law_k", 9)]) (.inl ⟨(show 8 ∉ ([0, 2] : List Nat) by decide), (free_I (show 0 ∈ ([0, 2] : List Nat) by decide) (show (8 : Nat) ≠ 0 by decide))⟩) rfl sc__law_classes.nd rfl (by kernel_rfl) (sw_true rfl (by kernel_rfl) rfl (by kernel_rfl)) (okv_I (show 0 ∈ ([0, 2] : List Nat) by decide) (show ∀ v ∈ ([9] : List Nat), v ∉ ([0, 2] : List Nat) ∧ v ≠ 0 by decide)) (ji_rng1 rfl E.fr_range (ja_cons (je_var (i := 5) (show 5 ∉ ([0, 2] : List Nat) by decide) rfl (.inr (.inl (by kernel_rfl)))) ja_nil)) (blkOk_by (own := [("_law_k", 9)]) (N := N__law_classes) (sc := defScope s__law_classes) (by decide +kernel)) (fun _ _ _ _ _ _ => (jv_name (i := 9) (by decide) (show 9 ∉ ([0, 2] : List Nat) by decide) (free_I (show 0 ∈ ([0, 2] : List Nat) by decide) (show (9 : Nat) ≠ 0 by decide)) sc__law_classes.nd rfl (.inl (by kernel_rfl)) (.inr (by kernel_rfl)))) (fun _ _ _ _ _ _ => jts_nil) (fun _ _ _ _ _ _ => (je_tup (ja_cons (je_op Dn.op_addX opd_add addD_nx (je_var (i := 6) (show 6 ∉ ([0, 2] : List Nat) by decide) rfl (.inr (.inl (by kernel_rfl)))) (je_op Dn.op_mulX opd_mul mulD_nx (je_var (i := 7) (show 7 ∉ ([0, 2] : List Nat) by decide) rfl (.inr (.inl (by kernel_rfl)))) (je_var (i := 9) (show 9 ∉ ([0, 2] : List Nat) by decide) rfl (.inl (by kernel_rfl))))) (ja_cons (je_op Dn.op_mulX opd_mul mulD_nx (je_var (i := 7) (show 7 ∉ ([0, 2] : List Nat) by decide) rfl (.inr (.inl (by kernel_rfl)))) (je_var (i := 5) (show 5 ∉ ([0, 2] : List Nat) by decide) rfl (.inr (.inl (by kernel_rfl))))) ja_nil)))))
  (js_one (js_setO (i := 2) (show 2 ∈ ([0, 2] : List Nat) by decide) (free_I (show 0 ∈ ([0, 2] : List Nat) by decide) (show (2 : Nat) ≠ 0 by decide)) sc__law_classes.nd rfl (.inl (by kernel_rfl)) (.inl rfl) (jf_add (je_op Dn.op_addX opd_add addD_nx (je_sliO (i := 2) rfl (show 2 ∈ ([0, 2] : List Nat) by decide) rfl (.inl (by kernel_rfl)) jo_none (jo_some (je_var (i := 4) (show 4 ∉ ([0, 2] : List Nat) by decide) rfl (.inl (by kernel_rfl))))) (je_sliO (i := 2) rfl (show 2 ∈ ([0, 2] : List Nat) by decide) rfl (.inl (by kernel_rfl)) (jo_some (je_op Dn.op_addX opd_add addD_nx (je_var (i := 4) (show 4 ∉ ([0, 2] : List Nat) by decide) rfl (.inl (by kernel_rfl))) je_int)) jo_none)) (je_var (i := 8) (show 8 ∉ ([0, 2] : List Nat) by decide) rfl (.inl (by kernel_rfl))))))) js_nil)))))
  (js_one (js_retL (i := 2) (show 2 ∈ ([0, 2] : List Nat) by decide) (free_I (show 0 ∈ ([0, 2] : List Nat) by decide) (show (2 : Nat) ≠ 0 by decide)) rfl (.inl (by kernel_rfl))))))
theorem h__law_classes_0 (E : MG w K mg) : HeldD P w K mg base 2 (He.ga K "_law_classes") (spI (kx K (fnA K)) 2 true F__law_classes) [] := by
  obtain ⟨fd, F0⟩ := E.fd__law_classes
  exact held_N F0 (fo__law_classes E F0) (b__law_classes F0)
theorem b__law_laying {fd : FuncData} (F : FunD K "_law_laying" "_law_laying" (defArgs s__law_laying) (defBody s__law_laying) (defScope s__law_laying) [] [] (He.ga K "_law_laying") fd) : L2.Binds K fd ["_law_purse_here", "_law_great"] [] := F.bindsN fun _ _ _ _ _ _ us hl => match us, hl with | [_, _], _ => rfl
theorem fo__law_laying (E : MG w K mg) {fd : FuncData} (F : FunD K "_law_laying" "_law_laying" (defArgs s__law_laying) (defBody s__law_laying) (defScope s__law_laying) [] [] (He.ga K "_law_laying") fd) : FnOk P w K mg base CX0 3 (He.ga K "_law_laying") fd ["_law_purse_here", "_law_great"] (spI (kx K (fnA K)) 2 false F__law_laying) := by
  refine fn_I (lv := 2) (n := 2) (NN := 15) (nw := false) (own := [0, 3, 4, 13]) (fb := m__law_laying) (k := kx K (fnA K)) (N := N__law_laying) F sc__law_laying rfl rfl (by decide) (by decide) (by decide) (fun cdv A outer s H E' M H0 a hr => ?_)
  unfold m__law_laying
  exact (js_cons (js_par2 (i := 2) (j := 3) (show 2 ∉ ([0, 3, 4, 13] : List Nat) by decide) (free_I (show 0 ∈ ([0, 3, 4, 13] : List Nat) by decide) (show (2 : Nat) ≠ 0 by decide)) (show 3 ∈ ([0, 3, 4, 13] : List Nat) by decide) (free_I (show 0 ∈ ([0, 3, 4, 13] : List Nat) by decide) (show (3 : Nat) ≠ 0 by decide)) rfl sc__law_laying.nd rfl rfl (show (2 : Nat) ≠ 3 by decide) (by kernel_rfl) (by kernel_rfl) (jc_callI (i := 0) rfl (h__law_classes_0 E) hr (show 2 ≤ 2 by decide) rfl E.gf__law_classes rfl (consA_len nilA_len) (show 0 ∈ ([0, 3, 4, 13] : List Nat) by decide) rfl (.inl (by kernel_rfl)) (ja_cons (jc_callI (i := 0) rfl (h__law_take_0 E) hr (show 1 ≤ 2 by decide) rfl E.gf__law_take rfl (consA_len nilA_len) (show 0 ∈ ([0, 3, 4, 13] : List Nat) by decide) rfl (.inl (by kernel_rfl)) (ja_cons je_int ja_nil)) ja_nil)) (jc_callIF (i := 0) rfl (h__law_classes_0 E) hr (show 2 ≤ 2 by decide) rfl E.gf__law_classes rfl (consA_len nilA_len) (show 0 ∈ ([0, 3, 4, 13] : List Nat) by decide) rfl (.inl (by kernel_rfl)) (ja_cons (jc_callI (i := 0) rfl (h__law_take_0 E) hr (show 1 ≤ 2 by decide) rfl E.gf__law_take rfl (consA_len nilA_len) (show 0 ∈ ([0, 3, 4, 13] : List Nat) by decide) rfl (.inl (by kernel_rfl)) (ja_cons je_int ja_nil)) ja_nil)) rfl)
  (js_cons (js_par1 (i := 4) (j := 5) (show 4 ∈ ([0, 3, 4, 13] : List Nat) by decide) (free_I (show 0 ∈ ([0, 3, 4, 13] : List Nat) by decide) (show (4 : Nat) ≠ 0 by decide)) (show 5 ∉ ([0, 3, 4, 13] : List Nat) by decide) (free_I (show 0 ∈ ([0, 3, 4, 13] : List Nat) by decide) (show (5 : Nat) ≠ 0 by decide)) rfl sc__law_laying.nd rfl rfl (show (4 : Nat) ≠ 5 by decide) (by kernel_rfl) (by kernel_rfl) (jf_lst ja_nil) (fun _ => (je_ix rfl (fun _ _ => rfl) (je_lst (ja_cons je_int (ja_cons (je_op op_pow opd_pow powD_nx je_int je_int) ja_nil))) (je_callTy call_int1 cad_int intD_nx rfl E.fr_int PyProof.Rows.boot_int (ja_cons (je_and (je_var (i := 1) (show 1 ∉ ([0, 3, 4, 13] : List Nat) by decide) rfl (.inl (by kernel_rfl))) (je_one (je_cmp (Dn.op_eqX hr.units) opd_eq eqD_nx (by rfl) (jc_callI (i := 0) rfl (h__law_take_0 E) hr (show 1 ≤ 2 by decide) rfl E.gf__law_take rfl (consA_len nilA_len) (show 0 ∈ ([0, 3, 4, 13] : List Nat) by decide) rfl (.inl (by kernel_rfl)) (ja_cons je_int ja_nil)) je_int))) ja_nil)))) rfl)
  (js_cons (js_for (tupG_nx (consG_nx (nmG_nx 6) (consG_nx (nmG_nx 7) nilG_nx))) PassesOwn.never rfl (ji_seq rfl (je_var (i := 2) (show 2 ∉ ([0, 3, 4, 13] : List Nat) by decide) rfl (.inl (by kernel_rfl)))) (jg_tup rfl rfl (jgs_cons (jg_name (i := 6) (show 6 ∉ ([0, 3, 4, 13] : List Nat) by decide) (free_I (show 0 ∈ ([0, 3, 4, 13] : List Nat) by decide) (show (6 : Nat) ≠ 0 by decide)) sc__law_laying.nd rfl (.inl (by kernel_rfl)) (.inl rfl)) (jgs_cons (jg_name (i := 7) (show 7 ∉ ([0, 3, 4, 13] : List Nat) by decide) (free_I (show 0 ∈ ([0, 3, 4, 13] : List Nat) by decide) (show (7 : Nat) ≠ 0 by decide)) sc__law_laying.nd rfl (.inl (by kernel_rfl)) (.inl rfl)) jgs_nil)))
  (js_one (js_if (PW.pt (jw_and (jt_cmpL (i := 3) (Dn.op_neX hr.units) opd_ne neD_nx (by rfl) (show 3 ∈ ([0, 3, 4, 13] : List Nat) by decide) rfl (.inl (by kernel_rfl)) (je_lst ja_nil)) (jw_and1 (jt_cmp op_gt opd_gt gtD_nx (by rfl) (jc_callI (i := 0) rfl (h__law_take_0 E) hr (show 1 ≤ 2 by decide) rfl E.gf__law_take rfl (consA_len nilA_len) (show 0 ∈ ([0, 3, 4, 13] : List Nat) by decide) rfl (.inl (by kernel_rfl)) (ja_cons je_int ja_nil)) je_int)))) (js_cons (js_asg (je_popK (i := 3) (show 3 ∈ ([0, 3, 4, 13] : List Nat) by decide) rfl (.inl (by kernel_rfl)) (jc_callI (i := 0) rfl (h__law_take_0 E) hr (show 1 ≤ 2 by decide) rfl E.gf__law_take rfl (consA_len nilA_len) (show 0 ∈ ([0, 3, 4, 13] : List Nat) by decide) rfl (.inl (by kernel_rfl)) (ja_cons (je_callBO (i := 3) call_lenX cad_len lenD_nx (show 3 ∈ ([0, 3, 4, 13] : List Nat) by decide) rfl (.inl (by kernel_rfl)) rfl E.fr_len PySem.boot_len) ja_nil))) (jg_tup rfl rfl (jgs_cons (jg_name (i := 8) (show 8 ∉ ([0, 3, 4, 13] : List Nat) by decide) (free_I (show 0 ∈ ([0, 3, 4, 13] : List Nat) by decide) (show (8 : Nat) ≠ 0 by decide)) sc__law_laying.nd rfl (.inl (by kernel_rfl)) (.inl rfl)) (jgs_cons (jg_name (i := 9) (show 9 ∉ ([0, 3, 4, 13] : List Nat) by decide) (free_I (show 0 ∈ ([0, 3, 4, 13] : List Nat) by decide) (show (9 : Nat) ≠ 0 by decide)) sc__law_laying.nd rfl (.inl (by kernel_rfl)) (.inl rfl)) jgs_nil))) (tupG_nx (consG_nx (nmG_nx 8) (consG_nx (nmG_nx 9) nilG_nx))))
  (js_cons (js_par (i := 10) (j := 11) (show 10 ∉ ([0, 3, 4, 13] : List Nat) by decide) (free_I (show 0 ∈ ([0, 3, 4, 13] : List Nat) by decide) (show (10 : Nat) ≠ 0 by decide)) (show 11 ∉ ([0, 3, 4, 13] : List Nat) by decide) (free_I (show 0 ∈ ([0, 3, 4, 13] : List Nat) by decide) (show (11 : Nat) ≠ 0 by decide)) rfl sc__law_laying.nd rfl rfl (show (10 : Nat) ≠ 11 by decide) (by kernel_rfl) (by kernel_rfl) (jc_callI (i := 0) rfl (h__law_take_0 E) hr (show 1 ≤ 2 by decide) rfl E.gf__law_take rfl (consA_len nilA_len) (show 0 ∈ ([0, 3, 4, 13] : List Nat) by decide) rfl (.inl (by kernel_rfl)) (ja_cons je_int ja_nil)) (jc_callI (i := 0) rfl (h__law_take_0 E) hr (show 1 ≤ 2 by decide) rfl E.gf__law_take rfl (consA_len nilA_len) (show 0 ∈ ([0, 3, 4, 13] : List Nat) by decide) rfl (.inl (by kernel_rfl)) (ja_cons je_int ja_nil)) rfl)
  (js_cons (js_set (i := 12) (show 12 ∉ ([0, 3, 4, 13] : List Nat) by decide) (free_I (show 0 ∈ ([0, 3, 4, 13] : List Nat) by decide) (show (12 : Nat) ≠ 0 by decide)) sc__law_laying.nd rfl (.inl (by kernel_rfl)) (.inl rfl) (je_ix rfl (fun _ _ => rfl) (je_lst (ja_cons je_int (ja_cons (je_op op_pow opd_pow powD_nx je_int je_int) ja_nil))) (je_callTy call_int1 cad_int intD_nx rfl E.fr_int PyProof.Rows.boot_int (ja_cons (je_and (je_var (i := 1) (show 1 ∉ ([0, 3, 4, 13] : List Nat) by decide) rfl (.inl (by kernel_rfl))) (je_one (je_cmp (Dn.op_eqX hr.units) opd_eq eqD_nx (by rfl) (jc_callI (i := 0) rfl (h__law_take_0 E) hr (show 1 ≤ 2 by decide) rfl E.gf__law_take rfl (consA_len nilA_len) (show 0 ∈ ([0, 3, 4, 13] : List Nat) by decide) rfl (.inl (by kernel_rfl)) (ja_cons je_int ja_nil)) je_int))) ja_nil))))
  (js_cons (js_app (i := 4) rfl (show 4 ∈ ([0, 3, 4, 13] : List Nat) by decide) rfl (.inl (by kernel_rfl)) (je_tup (ja_cons (je_op Dn.op_addX opd_add addD_nx (je_var (i := 6) (show 6 ∉ ([0, 3, 4, 13] : List Nat) by decide) rfl (.inl (by kernel_rfl))) (je_op Dn.op_mulX opd_mul mulD_nx (je_var (i := 7) (show 7 ∉ ([0, 3, 4, 13] : List Nat) by decide) rfl (.inl (by kernel_rfl))) (je_var (i := 10) (show 10 ∉ ([0, 3, 4, 13] : List Nat) by decide) rfl (.inl (by kernel_rfl))))) (ja_cons (je_var (i := 7) (show 7 ∉ ([0, 3, 4, 13] : List Nat) by decide) rfl (.inl (by kernel_rfl))) (ja_cons (je_op Dn.op_addX opd_add addD_nx (je_var (i := 8) (show 8 ∉ ([0, 3, 4, 13] : List Nat) by decide) rfl (.inl (by kernel_rfl))) (je_op Dn.op_mulX opd_mul mulD_nx (je_var (i := 9) (show 9 ∉ ([0, 3, 4, 13] : List Nat) by decide) rfl (.inl (by kernel_rfl))) (je_op Dn.op_addX opd_add addD_nx (je_var (i := 11) (show 11 ∉ ([0, 3, 4, 13] : List Nat) by decide) rfl (.inl (by kernel_rfl))) (je_var (i := 5) (show 5 ∉ ([0, 3, 4, 13] : List Nat) by decide) rfl (.inl (by kernel_rfl)))))) (ja_cons (je_op Dn.op_mulX opd_mul mulD_nx (je_var (i := 9) (show 9 ∉ ([0, 3, 4, 13] : List Nat) by decide) rfl (.inl (by kernel_rfl))) (je_var (i := 12) (show 12 ∉ ([0, 3, 4, 13] : List Nat) by decide) rfl (.inl (by kernel_rfl)))) ja_nil))))))
  (js_one (js_if (PW.pt (jw_and (jt_cmp op_gt opd_gt gtD_nx (by rfl) (je_var (i := 10) (show 10 ∉ ([0, 3, 4, 13] : List Nat) by decide) rfl (.inl (by kernel_rfl))) je_int) (jw_and (jt_cmp op_gt opd_gt gtD_nx (by rfl) (je_var (i := 11) (show 11 ∉ ([0, 3, 4, 13] : List Nat) by decide) rfl (.inl (by kernel_rfl))) je_int) (jw_and1 (jt_cmp (Dn.op_eqX hr.units) opd_eq eqD_nx (by rfl) (jc_callI (i := 0) rfl (h__law_take_0 E) hr (show 1 ≤ 2 by decide) rfl E.gf__law_take rfl (consA_len nilA_len) (show 0 ∈ ([0, 3, 4, 13] : List Nat) by decide) rfl (.inl (by kernel_rfl)) (ja_cons je_int ja_nil)) je_int))))) (js_one (js_app (i := 4) rfl (show 4 ∈ ([0, 3, 4, 13] : List Nat) by decide) rfl (.inl (by kernel_rfl)) (je_tup (ja_cons (je_op Dn.op_addX opd_add addD_nx (je_var (i := 6) (show 6 ∉ ([0, 3, 4, 13] : List Nat) by decide) rfl (.inl (by kernel_rfl))) (je_op Dn.op_mulX opd_mul mulD_nx (je_var (i := 7) (show 7 ∉ ([0, 3, 4, 13] : List Nat) by decide) rfl (.inl (by kernel_rfl))) (je_op op_sub opd_sub subD_nx (je_var (i := 10) (show 10 ∉ ([0, 3, 4, 13] : List Nat) by decide) rfl (.inl (by kernel_rfl))) je_int))) (ja_cons je_int (ja_cons (je_op Dn.op_addX opd_add addD_nx (je_var (i := 8) (show 8 ∉ ([0, 3, 4, 13] : List Nat) by decide) rfl (.inl (by kernel_rfl))) (je_op Dn.op_mulX opd_mul mulD_nx (je_var (i := 9) (show 9 ∉ ([0, 3, 4, 13] : List Nat) by decide) rfl (.inl (by kernel_rfl))) (je_op op_sub opd_sub subD_nx (je_op op_sub opd_sub subD_nx (je_var (i := 11) (show 11 ∉ ([0, 3, 4, 13] : List Nat) by decide) rfl (.inl (by kernel_rfl))) je_int) (jc_callI (i := 0) rfl (h__law_take_0 E) hr (show 1 ≤ 2 by decide) rfl E.gf__law_take rfl (consA_len nilA_len) (show 0 ∈ ([0, 3, 4, 13] : List Nat) by decide) rfl (.inl (by kernel_rfl)) (ja_cons (je_var (i := 11) (show 11 ∉ ([0, 3, 4, 13] : List Nat) by decide) rfl (.inl (by kernel_rfl))) ja_nil))))) (ja_cons je_int ja_nil))))))) js_nil)))))) js_nil)))
  (js_frz (i := 4) (show 4 ∈ ([0, 3, 4, 13] : List Nat) by decide) (free_I (show 0 ∈ ([0, 3, 4, 13] : List Nat) by decide) (show (4 : Nat) ≠ 0 by decide)) (js_cons (js_setO (i := 13) (show 13 ∈ ([0, 3, 13] : List Nat) by decide) (free_I (show 0 ∈ ([0, 3, 13] : List Nat) by decide) (show (13 : Nat) ≠ 0 by decide)) sc__law_laying.nd rfl (.inl (by kernel_rfl)) (.inl rfl) (jf_lst ja_nil))
  (js_cons (js_for (nmG_nx 14) PassesOwn.never rfl (ji_seq rfl (je_var (i := 4) (show 4 ∉ ([0, 3, 13] : List Nat) by decide) rfl (.inl (by kernel_rfl)))) (jg_name (i := 14) (show 14 ∉ ([0, 3, 13] : List Nat) by decide) (free_I (show 0 ∈ ([0, 3, 13] : List Nat) by decide) (show (14 : Nat) ≠ 0 by decide)) sc__law_laying.nd rfl (.inl (by kernel_rfl)) (.inl rfl))
  (js_one (js_expr (je_insK (i := 13) (show 13 ∈ ([0, 3, 13] : List Nat) by decide) rfl (.inl (by kernel_rfl)) (jc_callI (i := 0) rfl (h__law_take_0 E) hr (show 1 ≤ 2 by decide) rfl E.gf__law_take rfl (consA_len nilA_len) (show 0 ∈ ([0, 3, 13] : List Nat) by decide) rfl (.inl (by kernel_rfl)) (ja_cons (je_op Dn.op_addX opd_add addD_nx (je_callBO (i := 13) call_lenX cad_len lenD_nx (show 13 ∈ ([0, 3, 13] : List Nat) by decide) rfl (.inl (by kernel_rfl)) rfl E.fr_len PySem.boot_len) je_int) ja_nil)) (je_var (i := 14) (show 14 ∉ ([0, 3, 13] : List Nat) by decide) rfl (.inl (by kernel_rfl)))))))
  (js_frz (i := 13) (show 13 ∈ ([0, 3, 13] : List Nat) by decide) (free_I (show 0 ∈ ([0, 3, 13] : List Nat) by decide) (show (13 : Nat) ≠ 0 by decide)) (js_one (js_ret (je_callTy call_tuple_of cad_tuple tupleD_nx rfl E.fr_tuple PyProof.Rows.boot_tuple (ja_cons (je_var (i := 13) (show 13 ∉ ([0, 3] : List Nat) by decide) rfl (.inl (by kernel_rfl))) ja_nil)))))))))))
theorem h__law_laying_0 (E : MG w K mg) : HeldD P w K mg base 3 (He.ga K "_law_laying") (spI (kx K (fnA K)) 2 false F__law_laying) [] := by
  obtain ⟨fd, F0⟩ := E.fd__law_laying
  exact held_N F0 (fo__law_laying E F0) (b__law_laying F0)
theorem b__law_why {fd : FuncData} (F : FunD K "_law_why" "_law_why" (defArgs s__law_why) (defBody s__law_why) (defScope s__law_why) [] [] (He.ga K "_law_why") fd) : L2.Binds K fd ["_law_row", "_law_spot"] [] := F.bindsN fun _ _ _ _ _ _ us hl => match us, hl with | [_, _], _ => rfl
theorem fo__law_why (E : MG w K mg) {fd : FuncData} (F : FunD K "_law_why" "_law_why" (defArgs s__law_why) (defBody s__law_why) (defScope s__law_why) [] [] (He.ga K "_law_why") fd) : FnOk P w K mg base CX0 1 (He.ga K "_law_why") fd ["_law_row", "_law_spot"] (spP (kx K (fnA K)) 2 false F__law_why) := by
  refine fn_P (lv := 0) (n := 2) (NN := 2) (nw := false) (own := []) (fb := m__law_why) (k := kx K (fnA K)) (N := N__law_why) F sc__law_why rfl rfl (by decide) (fun cdv A outer s H E' M H0 W hr => ?_)
  unfold m__law_why
  exact (js_cons (js_if (jt_cmp (Dn.op_eqX hr.units) opd_eq eqD_nx (by rfl) (je_ix rfl (fun _ _ => rfl) (je_var (i := 0) (show 0 ∉ ([] : List Nat) by decide) rfl (.inl (by kernel_rfl))) je_int) je_int) (js_one (js_ret (je_op Dn.op_mulX opd_mul mulD_nx (je_lst (ja_cons je_str ja_nil)) (je_callTy call_int1 cad_int intD_nx rfl E.fr_int PyProof.Rows.boot_int (ja_cons (je_cmp (Dn.op_neX hr.units) opd_ne neD_nx (by rfl) (je_ix rfl (fun _ _ => rfl) (je_var (i := 0) (show 0 ∉ ([] : List Nat) by decide) rfl (.inl (by kernel_rfl))) je_int) (je_var (i := 1) (show 1 ∉ ([] : List Nat) by decide) rfl (.inl (by kernel_rfl)))) ja_nil))))) js_nil)
  (js_one (js_ret (je_op Dn.op_addX opd_add addD_nx (je_op Dn.op_mulX opd_mul mulD_nx (je_lst (ja_cons je_str ja_nil)) (je_callTy call_int1 cad_int intD_nx rfl E.fr_int PyProof.Rows.boot_int (ja_cons (je_cmp op_gt opd_gt gtD_nx (by rfl) (je_ix rfl (fun _ _ => rfl) (je_var (i := 0) (show 0 ∉ ([] : List Nat) by decide) rfl (.inl (by kernel_rfl))) je_int) (je_var (i := 1) (show 1 ∉ ([] : List Nat) by decide) rfl (.inl (by kernel_rfl)))) ja_nil))) (je_op Dn.op_mulX opd_mul mulD_nx (je_lst (ja_cons je_str ja_nil)) (je_callTy call_int1 cad_int intD_nx rfl E.fr_int PyProof.Rows.boot_int (ja_cons (je_cmp (Dn.op_neX hr.units) opd_ne neD_nx (by rfl) (je_op op_modN opd_mod modD_nx (je_op op_sub opd_sub subD_nx (je_var (i := 1) (show 1 ∉ ([] : List Nat) by decide) rfl (.inl (by kernel_rfl))) (je_ix rfl (fun _ _ => rfl) (je_var (i := 0) (show 0 ∉ ([] : List Nat) by decide) rfl (.inl (by kernel_rfl))) je_int)) (je_ix rfl (fun _ _ => rfl) (je_var (i := 0) (show 0 ∉ ([] : List Nat) by decide) rfl (.inl (by kernel_rfl))) je_int)) je_int) ja_nil)))))))
theorem h__law_why_0 (E : MG w K mg) : HeldD P w K mg base 1 (He.ga K "_law_why") (spP (kx K (fnA K)) 2 false F__law_why) [] := by
  obtain ⟨fd, F0⟩ := E.fd__law_why
  exact held_N F0 (fo__law_why E F0) (b__law_why F0)
theorem b__law_claims {fd : FuncData} (F : FunD K "_law_claims" "_law_claims" (defArgs s__law_claims) (defBody s__law_claims) (defScope s__law_claims) [] [] (He.ga K "_law_claims") fd) : L2.Binds K fd ["_law_purse_here", "_law_rows"] [] := F.bindsN fun _ _ _ _ _ _ us hl => match us, hl with | [_, _], _ => rfl
theorem fo__law_claims (E : MG w K mg) {fd : FuncData} (F : FunD K "_law_claims" "_law_claims" (defArgs s__law_claims) (defBody s__law_claims) (defScope s__law_claims) [] [] (He.ga K "_law_claims") fd) : FnOk P w K mg base CX0 2 (He.ga K "_law_claims") fd ["_law_purse_here", "_law_rows"] (spI (kx K (fnA K)) 2 false F__law_claims) := by
  refine fn_I (lv := 1) (n := 2) (NN := 12) (nw := false) (own := [0, 2, 8]) (fb := m__law_claims) (k := kx K (fnA K)) (N := N__law_claims) F sc__law_claims rfl rfl (by decide) (by decide) (by decide) (fun cdv A outer s H E' M H0 a hr => ?_)
  unfold m__law_claims
  exact (js_cons (js_par1 (i := 2) (j := 3) (show 2 ∈ ([0, 2, 8] : List Nat) by decide) (free_I (show 0 ∈ ([0, 2, 8] : List Nat) by decide) (show (2 : Nat) ≠ 0 by decide)) (show 3 ∉ ([0, 2, 8] : List Nat) by decide) (free_I (show 0 ∈ ([0, 2, 8] : List Nat) by decide) (show (3 : Nat) ≠ 0 by decide)) rfl sc__law_claims.nd rfl rfl (show (2 : Nat) ≠ 3 by decide) (by kernel_rfl) (by kernel_rfl) (jf_lst ja_nil) (fun _ => (je_op Dn.op_addX opd_add addD_nx (je_of (jf_lrng rfl rfl E.fr_list rfl E.fr_range je_int)) (je_lst (ja_cons (jc_callI (i := 0) rfl (h__law_take_0 E) hr (show 1 ≤ 1 by decide) rfl E.gf__law_take rfl (consA_len nilA_len) (show 0 ∈ ([0, 2, 8] : List Nat) by decide) rfl (.inl (by kernel_rfl)) (ja_cons je_int ja_nil)) (ja_cons (je_op Dn.op_addX opd_add addD_nx (je_op op_pow opd_pow powD_nx je_int je_int) (jc_callI (i := 0) rfl (h__law_take_0 E) hr (show 1 ≤ 1 by decide) rfl E.gf__law_take rfl (consA_len nilA_len) (show 0 ∈ ([0, 2, 8] : List Nat) by decide) rfl (.inl (by kernel_rfl)) (ja_cons je_int ja_nil))) ja_nil))))) rfl)
  (js_cons (js_for (nmG_nx 4) PassesOwn.never rfl (ji_rng1 rfl E.fr_range (ja_cons (je_callB call_lenX cad_len lenD_nx rfl E.fr_len PySem.boot_len (ja_cons (je_var (i := 1) (show 1 ∉ ([0, 2, 8] : List Nat) by decide) rfl (.inl (by kernel_rfl))) ja_nil)) ja_nil)) (jg_name (i := 4) (show 4 ∉ ([0, 2, 8] : List Nat) by decide) (free_I (show 0 ∈ ([0, 2, 8] : List Nat) by decide) (show (4 : Nat) ≠ 0 by decide)) sc__law_claims.nd rfl (.inl (by kernel_rfl)) (.inl rfl))
  (js_cons (js_set (i := 5) (show 5 ∉ ([0, 2, 8] : List Nat) by decide) (free_I (show 0 ∈ ([0, 2, 8] : List Nat) by decide) (show (5 : Nat) ≠ 0 by decide)) sc__law_claims.nd rfl (.inl (by kernel_rfl)) (.inl rfl) (je_op Dn.op_mulX opd_mul mulD_nx (je_ix rfl (fun _ _ => rfl) (je_lst (ja_cons je_int (ja_cons je_int (ja_cons (jc_callI (i := 0) rfl (h__law_take_0 E) hr (show 1 ≤ 1 by decide) rfl E.gf__law_take rfl (consA_len nilA_len) (show 0 ∈ ([0, 2, 8] : List Nat) by decide) rfl (.inl (by kernel_rfl)) (ja_cons je_int ja_nil)) (ja_cons (je_op op_pow opd_pow powD_nx je_int je_int) ja_nil))))) (jc_callI (i := 0) rfl (h__law_take_0 E) hr (show 1 ≤ 1 by decide) rfl E.gf__law_take rfl (consA_len nilA_len) (show 0 ∈ ([0, 2, 8] : List Nat) by decide) rfl (.inl (by kernel_rfl)) (ja_cons je_int ja_nil))) (je_callTy call_int1 cad_int intD_nx rfl E.fr_int PyProof.Rows.boot_int (ja_cons (je_cmp op_gt opd_gt gtD_nx (by rfl) (je_ix rfl (fun _ _ => rfl) (je_ix rfl (fun _ _ => rfl) (je_var (i := 1) (show 1 ∉ ([0, 2, 8] : List Nat) by decide) rfl (.inl (by kernel_rfl))) (je_var (i := 4) (show 4 ∉ ([0, 2, 8] : List Nat) by decide) rfl (.inl (by kernel_rfl)))) je_int) je_int) ja_nil))))
  (js_cons (js_set (i := 6) (show 6 ∉ ([0, 2, 8] : List Nat) by decide) (free_I (show 0 ∈ ([0, 2, 8] : List Nat) by decide) (show (6 : Nat) ≠ 0 by decide)) sc__law_claims.nd rfl (.inl (by kernel_rfl)) (.inl rfl) (je_op Dn.op_addX opd_add addD_nx (je_ix rfl (fun _ _ => rfl) (je_ix rfl (fun _ _ => rfl) (je_var (i := 1) (show 1 ∉ ([0, 2, 8] : List Nat) by decide) rfl (.inl (by kernel_rfl))) (je_var (i := 4) (show 4 ∉ ([0, 2, 8] : List Nat) by decide) rfl (.inl (by kernel_rfl)))) je_int) (je_op Dn.op_mulX opd_mul mulD_nx (je_ix rfl (fun _ _ => rfl) (je_ix rfl (fun _ _ => rfl) (je_var (i := 1) (show 1 ∉ ([0, 2, 8] : List Nat) by decide) rfl (.inl (by kernel_rfl))) (je_var (i := 4) (show 4 ∉ ([0, 2, 8] : List Nat) by decide) rfl (.inl (by kernel_rfl)))) je_int) (je_var (i := 5) (show 5 ∉ ([0, 2, 8] : List Nat) by decide) rfl (.inl (by kernel_rfl))))))
  (js_cons (js_set (i := 7) (show 7 ∉ ([0, 2, 8] : List Nat) by decide) (free_I (show 0 ∈ ([0, 2, 8] : List Nat) by decide) (show (7 : Nat) ≠ 0 by decide)) sc__law_claims.nd rfl (.inr (by kernel_rfl)) (.inl rfl) (je_op Dn.op_addX opd_add addD_nx (je_ix rfl (fun _ _ => rfl) (je_ix rfl (fun _ _ => rfl) (je_var (i := 1) (show 1 ∉ ([0, 2, 8] : List Nat) by decide) rfl (.inl (by kernel_rfl))) (je_var (i := 4) (show 4 ∉ ([0, 2, 8] : List Nat) by decide) rfl (.inl (by kernel_rfl)))) je_int) (je_op Dn.op_mulX opd_mul mulD_nx (je_ix rfl (fun _ _ => rfl) (je_ix rfl (fun _ _ => rfl) (je_var (i := 1) (show 1 ∉ ([0, 2, 8] : List Nat) by decide) rfl (.inl (by kernel_rfl))) (je_var (i := 4) (show 4 ∉ ([0, 2, 8] : List Nat) by decide) rfl (.inl (by kernel_rfl)))) je_int) (je_var (i := 5) (show 5 ∉ ([0, 2, 8] : List Nat) by decide) rfl (.inl (by kernel_rfl))))))
  (js_cons (js_set (i := 3) (show 3 ∉ ([0, 2, 8] : List Nat) by decide) (free_I (show 0 ∈ ([0, 2, 8] : List Nat) by decide) (show (3 : Nat) ≠ 0 by decide)) sc__law_claims.nd rfl (.inl (by kernel_rfl)) (.inl rfl) (je_op Dn.op_addX opd_add addD_nx (je_var (i := 3) (show 3 ∉ ([0, 2, 8] : List Nat) by decide) rfl (.inl (by kernel_rfl))) (je_lst (ja_cons (je_var (i := 7) (show 7 ∉ ([0, 2, 8] : List Nat) by decide) rfl (.inr (.inl (by kernel_rfl)))) (ja_cons (je_op Dn.op_addX opd_add addD_nx (je_var (i := 7) (show 7 ∉ ([0, 2, 8] : List Nat) by decide) rfl (.inr (.inl (by kernel_rfl)))) je_int) (ja_cons (je_callB (call_maxX rfl) cad_max maxD_nx rfl E.fr_max PyProof.Rows.boot_max (ja_cons je_int (ja_cons (je_op op_sub opd_sub subD_nx (je_var (i := 7) (show 7 ∉ ([0, 2, 8] : List Nat) by decide) rfl (.inr (.inl (by kernel_rfl)))) je_int) ja_nil))) ja_nil))))))
  (js_cons (js_app (i := 2) rfl (show 2 ∈ ([0, 2, 8] : List Nat) by decide) rfl (.inl (by kernel_rfl)) (je_tup (ja_cons (je_tup (ja_cons je_str (ja_cons (je_var (i := 1) (show 1 ∉ ([0, 2, 8] : List Nat) by decide) rfl (.inl (by kernel_rfl))) (ja_cons (je_var (i := 6) (show 6 ∉ ([0, 2, 8] : List Nat) by decide) rfl (.inl (by kernel_rfl))) (ja_cons (je_var (i := 7) (show 7 ∉ ([0, 2, 8] : List Nat) by decide) rfl (.inr (.inl (by kernel_rfl)))) ja_nil))))) (ja_cons (je_tup (ja_cons (je_var (i := 4) (show 4 ∉ ([0, 2, 8] : List Nat) by decide) rfl (.inl (by kernel_rfl))) (ja_cons (je_var (i := 5) (show 5 ∉ ([0, 2, 8] : List Nat) by decide) rfl (.inl (by kernel_rfl))) ja_nil))) ja_nil))))
  (js_cons (js_app (i := 2) rfl (show 2 ∈ ([0, 2, 8] : List Nat) by decide) rfl (.inl (by kernel_rfl)) (je_tup (ja_cons (je_tup (ja_cons je_str (ja_cons (je_var (i := 1) (show 1 ∉ ([0, 2, 8] : List Nat) by decide) rfl (.inl (by kernel_rfl))) (ja_cons (je_var (i := 6) (show 6 ∉ ([0, 2, 8] : List Nat) by decide) rfl (.inl (by kernel_rfl))) (ja_cons (je_var (i := 7) (show 7 ∉ ([0, 2, 8] : List Nat) by decide) rfl (.inr (.inl (by kernel_rfl)))) ja_nil))))) (ja_cons (je_tup (ja_cons (jc_callI (i := 0) rfl (h__law_take_0 E) hr (show 1 ≤ 1 by decide) rfl E.gf__law_take rfl (consA_len nilA_len) (show 0 ∈ ([0, 2, 8] : List Nat) by decide) rfl (.inl (by kernel_rfl)) (ja_cons (je_op Dn.op_addX opd_add addD_nx (je_callB call_lenX cad_len lenD_nx rfl E.fr_len PySem.boot_len (ja_cons (je_var (i := 1) (show 1 ∉ ([0, 2, 8] : List Nat) by decide) rfl (.inl (by kernel_rfl))) ja_nil)) je_int) ja_nil)) (ja_cons (je_var (i := 5) (show 5 ∉ ([0, 2, 8] : List Nat) by decide) rfl (.inl (by kernel_rfl))) ja_nil))) ja_nil))))
  (js_cons (js_app (i := 2) rfl (show 2 ∈ ([0, 2, 8] : List Nat) by decide) rfl (.inl (by kernel_rfl)) (je_tup (ja_cons (je_tup (ja_cons je_str (ja_cons (je_var (i := 1) (show 1 ∉ ([0, 2, 8] : List Nat) by decide) rfl (.inl (by kernel_rfl))) (ja_cons (je_var (i := 6) (show 6 ∉ ([0, 2, 8] : List Nat) by decide) rfl (.inl (by kernel_rfl))) (ja_cons (je_var (i := 7) (show 7 ∉ ([0, 2, 8] : List Nat) by decide) rfl (.inr (.inl (by kernel_rfl)))) ja_nil))))) (ja_cons (je_tup (ja_cons (je_var (i := 4) (show 4 ∉ ([0, 2, 8] : List Nat) by decide) rfl (.inl (by kernel_rfl))) (ja_cons (je_op Dn.op_addX opd_add addD_nx (je_var (i := 5) (show 5 ∉ ([0, 2, 8] : List Nat) by decide) rfl (.inl (by kernel_rfl))) je_int) ja_nil))) ja_nil))))
  (js_cons (js_app (i := 2) rfl (show 2 ∈ ([0, 2, 8] : List Nat) by decide) rfl (.inl (by kernel_rfl)) (je_tup (ja_cons (je_tup (ja_cons je_str (ja_cons (je_var (i := 1) (show 1 ∉ ([0, 2, 8] : List Nat) by decide) rfl (.inl (by kernel_rfl))) (ja_cons (je_op Dn.op_addX opd_add addD_nx (je_var (i := 6) (show 6 ∉ ([0, 2, 8] : List Nat) by decide) rfl (.inl (by kernel_rfl))) je_int) (ja_cons (je_var (i := 7) (show 7 ∉ ([0, 2, 8] : List Nat) by decide) rfl (.inr (.inl (by kernel_rfl)))) ja_nil))))) (ja_cons (je_tup (ja_cons (je_var (i := 4) (show 4 ∉ ([0, 2, 8] : List Nat) by decide) rfl (.inl (by kernel_rfl))) (ja_cons (je_var (i := 5) (show 5 ∉ ([0, 2, 8] : List Nat) by decide) rfl (.inl (by kernel_rfl))) ja_nil))) ja_nil))))
  (js_one (js_app (i := 2) rfl (show 2 ∈ ([0, 2, 8] : List Nat) by decide) rfl (.inl (by kernel_rfl)) (je_tup (ja_cons (je_tup (ja_cons je_str (ja_cons (je_var (i := 1) (show 1 ∉ ([0, 2, 8] : List Nat) by decide) rfl (.inl (by kernel_rfl))) (ja_cons (je_var (i := 6) (show 6 ∉ ([0, 2, 8] : List Nat) by decide) rfl (.inl (by kernel_rfl))) (ja_cons (je_op Dn.op_addX opd_add addD_nx (je_var (i := 7) (show 7 ∉ ([0, 2, 8] : List Nat) by decide) rfl (.inr (.inl (by kernel_rfl)))) je_int) ja_nil))))) (ja_cons (je_tup (ja_cons (je_var (i := 4) (show 4 ∉ ([0, 2, 8] : List Nat) by decide) rfl (.inl (by kernel_rfl))) (ja_cons (je_var (i := 5) (show 5 ∉ ([0, 2, 8] : List Nat) by decide) rfl (.inl (by kernel_rfl))) ja_nil))) ja_nil))))))))))))))
  (js_cons (js_for (nmG_nx 7) PassesOwn.never rfl (ji_seq rfl (je_var (i := 3) (show 3 ∉ ([0, 2, 8] : List Nat) by decide) rfl (.inl (by kernel_rfl)))) (jg_name (i := 7) (show 7 ∉ ([0, 2, 8] : List Nat) by decide) (free_I (show 0 ∈ ([0, 2, 8] : List Nat) by decide) (show (7 : Nat) ≠ 0 by decide)) sc__law_claims.nd rfl (.inr (by kernel_rfl)) (.inl rfl))
  (js_cons (js_setLc (i := 8) (own := [("_law_row", 11)]) (.inr ⟨(show 8 ∈ ([0, 2, 8] : List Nat) by decide), (free_I (show 0 ∈ ([0, 2, 8] : List Nat) by decide) (show (8 : Nat) ≠ 0 by decide))⟩) rfl sc__law_claims.nd rfl (by kernel_rfl) (sw_true rfl (by kernel_rfl) rfl (by kernel_rfl)) (okv_I (show 0 ∈ ([0, 2, 8] : List Nat) by decide) (show ∀ v ∈ ([11] : List Nat), v ∉ ([0, 2, 8] : List Nat) ∧ v ≠ 0 by decide)) (ji_seq rfl (je_var (i := 1) (show 1 ∉ ([0, 2, 8] : List Nat) by decide) rfl (.inl (by kernel_rfl)))) (blkOk_by (own := [("_law_row", 11)]) (N := N__law_claims) (sc := defScope s__law_claims) (by decide +kernel)) (fun _ _ _ _ _ _ => (jv_name (i := 11) (by decide) (show 11 ∉ ([0, 2, 8] : List Nat) by decide) (free_I (show 0 ∈ ([0, 2, 8] : List Nat) by decide) (show (11 : Nat) ≠ 0 by decide)) sc__law_claims.nd rfl (.inl (by kernel_rfl)) (.inr (by kernel_rfl)))) (fun _ _ _ _ _ _ => jts_nil) (fun _ _ _ _ _ _ => (je_ix rfl (fun _ _ => rfl) (je_op Dn.op_addX opd_add addD_nx (jc_call (h__law_why_0 E) hr (show 1 ≤ 1 by decide) rfl E.gf__law_why (fun _ _ => rfl) rfl (consA_len (consA_len nilA_len)) (ja_cons (je_var (i := 11) (show 11 ∉ ([0, 2, 8] : List Nat) by decide) rfl (.inl (by kernel_rfl))) (ja_cons (je_var (i := 7) (show 7 ∉ ([0, 2, 8] : List Nat) by decide) rfl (.inr (.inl (by kernel_rfl)))) ja_nil))) (je_lst (ja_cons je_str ja_nil))) je_int)))
  (js_cons (js_setLc (i := 9) (own := [("_law_row", 11)]) (.inl ⟨(show 9 ∉ ([0, 2, 8] : List Nat) by decide), (free_I (show 0 ∈ ([0, 2, 8] : List Nat) by decide) (show (9 : Nat) ≠ 0 by decide))⟩) rfl sc__law_claims.nd rfl (by kernel_rfl) (sw_true rfl (by kernel_rfl) rfl (by kernel_rfl)) (okv_I (show 0 ∈ ([0, 2, 8] : List Nat) by decide) (show ∀ v ∈ ([11] : List Nat), v ∉ ([0, 2, 8] : List Nat) ∧ v ≠ 0 by decide)) (ji_seq rfl (je_var (i := 1) (show 1 ∉ ([0, 2, 8] : List Nat) by decide) rfl (.inl (by kernel_rfl)))) (blkOk_by (own := [("_law_row", 11)]) (N := N__law_claims) (sc := defScope s__law_claims) (by decide +kernel)) (fun _ _ _ _ _ _ => (jv_name (i := 11) (by decide) (show 11 ∉ ([0, 2, 8] : List Nat) by decide) (free_I (show 0 ∈ ([0, 2, 8] : List Nat) by decide) (show (11 : Nat) ≠ 0 by decide)) sc__law_claims.nd rfl (.inl (by kernel_rfl)) (.inr (by kernel_rfl)))) (fun _ _ _ _ _ _ => jts_nil) (fun _ _ _ _ _ _ => (je_ix rfl (fun _ _ => rfl) (je_op Dn.op_addX opd_add addD_nx (je_lst (ja_cons je_str ja_nil)) (jc_call (h__law_why_0 E) hr (show 1 ≤ 1 by decide) rfl E.gf__law_why (fun _ _ => rfl) rfl (consA_len (consA_len nilA_len)) (ja_cons (je_var (i := 11) (show 11 ∉ ([0, 2, 8] : List Nat) by decide) rfl (.inl (by kernel_rfl))) (ja_cons (je_var (i := 7) (show 7 ∉ ([0, 2, 8] : List Nat) by decide) rfl (.inr (.inl (by kernel_rfl)))) ja_nil)))) (je_neg je_int))))
  (js_cons (js_app (i := 2) rfl (show 2 ∈ ([0, 2, 8] : List Nat) by decide) rfl (.inl (by kernel_rfl)) (je_tup (ja_cons (je_tup (ja_cons je_str (ja_cons (je_var (i := 1) (show 1 ∉ ([0, 2, 8] : List Nat) by decide) rfl (.inl (by kernel_rfl))) (ja_cons (je_var (i := 7) (show 7 ∉ ([0, 2, 8] : List Nat) by decide) rfl (.inr (.inl (by kernel_rfl)))) ja_nil)))) (ja_cons (je_callTyO (i := 8) call_tuple_of cad_tuple tupleD_nx (show 8 ∈ ([0, 2, 8] : List Nat) by decide) rfl (.inl (by kernel_rfl)) rfl E.fr_tuple PyProof.Rows.boot_tuple) ja_nil))))
  (js_cons (js_app (i := 2) rfl (show 2 ∈ ([0, 2, 8] : List Nat) by decide) rfl (.inl (by kernel_rfl)) (je_tup (ja_cons (je_tup (ja_cons je_str (ja_cons (je_var (i := 1) (show 1 ∉ ([0, 2, 8] : List Nat) by decide) rfl (.inl (by kernel_rfl))) (ja_cons (je_var (i := 7) (show 7 ∉ ([0, 2, 8] : List Nat) by decide) rfl (.inr (.inl (by kernel_rfl)))) ja_nil)))) (ja_cons (je_callTy call_tuple_of cad_tuple tupleD_nx rfl E.fr_tuple PyProof.Rows.boot_tuple (ja_cons (je_var (i := 9) (show 9 ∉ ([0, 2, 8] : List Nat) by decide) rfl (.inl (by kernel_rfl))) ja_nil)) ja_nil))))
  (js_cons (js_if (jt_cmpL (i := 8) (Dn.op_neX hr.units) opd_ne neD_nx (by rfl) (show 8 ∈ ([0, 2, 8] : List Nat) by decide) rfl (.inl (by kernel_rfl)) (je_lst ja_nil)) (js_cons (js_set (i := 10) (show 10 ∉ ([0, 2, 8] : List Nat) by decide) (free_I (show 0 ∈ ([0, 2, 8] : List Nat) by decide) (show (10 : Nat) ≠ 0 by decide)) sc__law_claims.nd rfl (.inl (by kernel_rfl)) (.inl rfl) (jc_callI (i := 0) rfl (h__law_take_0 E) hr (show 1 ≤ 1 by decide) rfl E.gf__law_take rfl (consA_len nilA_len) (show 0 ∈ ([0, 2, 8] : List Nat) by decide) rfl (.inl (by kernel_rfl)) (ja_cons (je_callBO (i := 8) call_lenX cad_len lenD_nx (show 8 ∈ ([0, 2, 8] : List Nat) by decide) rfl (.inl (by kernel_rfl)) rfl E.fr_len PySem.boot_len) ja_nil)))
  (js_one (js_asg (je_ix rfl (fun _ _ => rfl) (je_lst (ja_cons je_str (ja_cons je_str (ja_cons je_str ja_nil)))) (jc_callI (i := 0) rfl (h__law_take_0 E) hr (show 1 ≤ 1 by decide) rfl E.gf__law_take rfl (consA_len nilA_len) (show 0 ∈ ([0, 2, 8] : List Nat) by decide) rfl (.inl (by kernel_rfl)) (ja_cons je_int ja_nil))) (jg_sub (i := 8) (show 8 ∈ ([0, 2, 8] : List Nat) by decide) rfl (.inl (by kernel_rfl)) (je_var (i := 10) (show 10 ∉ ([0, 2, 8] : List Nat) by decide) rfl (.inl (by kernel_rfl)))) (subG_nx (vr_nx _))))) js_nil)
  (js_one (js_app (i := 2) rfl (show 2 ∈ ([0, 2, 8] : List Nat) by decide) rfl (.inl (by kernel_rfl)) (je_tup (ja_cons (je_tup (ja_cons je_str (ja_cons (je_var (i := 1) (show 1 ∉ ([0, 2, 8] : List Nat) by decide) rfl (.inl (by kernel_rfl))) (ja_cons (je_var (i := 7) (show 7 ∉ ([0, 2, 8] : List Nat) by decide) rfl (.inr (.inl (by kernel_rfl)))) ja_nil)))) (ja_cons (je_callTyO (i := 8) call_tuple_of cad_tuple tupleD_nx (show 8 ∈ ([0, 2, 8] : List Nat) by decide) rfl (.inl (by kernel_rfl)) rfl E.fr_tuple PyProof.Rows.boot_tuple) ja_nil)))))))))))
  (js_frz (i := 2) (show 2 ∈ ([0, 2, 8] : List Nat) by decide) (free_I (show 0 ∈ ([0, 2, 8] : List Nat) by decide) (show (2 : Nat) ≠ 0 by decide)) (js_one (js_ret (je_var (i := 2) (show 2 ∉ ([0, 8] : List Nat) by decide) rfl (.inl (by kernel_rfl)))))))))
theorem h__law_claims_0 (E : MG w K mg) : HeldD P w K mg base 2 (He.ga K "_law_claims") (spI (kx K (fnA K)) 2 false F__law_claims) [] := by
  obtain ⟨fd, F0⟩ := E.fd__law_claims
  exact held_N F0 (fo__law_claims E F0) (b__law_claims F0)
theorem b__law_odd {fd : FuncData} (F : FunD K "_law_odd" "_law_odd" (defArgs s__law_odd) (defBody s__law_odd) (defScope s__law_odd) [] [] (He.ga K "_law_odd") fd) : L2.Binds K fd ["_law_purse_here"] [] := F.bindsN fun _ _ _ _ _ _ us hl => match us, hl with | [_], _ => rfl
theorem fo__law_odd (E : MG w K mg) {fd : FuncData} (F : FunD K "_law_odd" "_law_odd" (defArgs s__law_odd) (defBody s__law_odd) (defScope s__law_odd) [] [] (He.ga K "_law_odd") fd) : FnOk P w K mg base CX0 2 (He.ga K "_law_odd") fd ["_law_purse_here"] (spI (kx K (fnA K)) 1 false F__law_odd) := by
  refine fn_I (lv := 1) (n := 1) (NN := 2) (nw := false) (own := [0]) (fb := m__law_odd) (k := kx K (fnA K)) (N := N__law_odd) F sc__law_odd rfl rfl (by decide) (by decide) (by decide) (fun cdv A outer s H E' M H0 a hr => ?_)
  unfold m__law_odd
  exact (js_cons (js_set (i := 1) (show 1 ∉ ([0] : List Nat) by decide) (free_I (show 0 ∈ ([0] : List Nat) by decide) (show (1 : Nat) ≠ 0 by decide)) sc__law_odd.nd rfl (.inl (by kernel_rfl)) (.inl rfl) (je_lst (ja_cons je_non (ja_cons je_bl (ja_cons je_bl (ja_cons je_int (ja_cons je_int (ja_cons (je_op op_sub opd_sub subD_nx je_int je_int) (ja_cons je_int (ja_cons je_str (ja_cons je_str (ja_cons je_str (ja_cons (je_tup ja_nil) (ja_cons (je_lst ja_nil) (ja_cons je_dct0 (ja_cons (je_tup (ja_cons je_int ja_nil)) (ja_cons (je_lst (ja_cons je_int ja_nil)) (ja_cons (je_tup (ja_cons (je_lst ja_nil) ja_nil)) (ja_cons (je_tup (ja_cons je_dct0 ja_nil)) (ja_cons (je_tup (ja_cons je_non ja_nil)) (ja_cons (je_tup (ja_cons je_int ja_nil)) ja_nil)))))))))))))))))))))
  (js_cons (js_set (i := 1) (show 1 ∉ ([0] : List Nat) by decide) (free_I (show 0 ∈ ([0] : List Nat) by decide) (show (1 : Nat) ≠ 0 by decide)) sc__law_odd.nd rfl (.inl (by kernel_rfl)) (.inl rfl) (je_op Dn.op_addX opd_add addD_nx (je_var (i := 1) (show 1 ∉ ([0] : List Nat) by decide) rfl (.inl (by kernel_rfl))) (je_lst (ja_cons (je_tup (ja_cons je_bl ja_nil)) (ja_cons (je_op op_pow opd_pow powD_nx je_int je_int) (ja_cons je_str (ja_cons je_str (ja_cons je_str (ja_cons (je_tup (ja_cons je_int (ja_cons je_int ja_nil))) (ja_cons (je_tup (ja_cons je_int (ja_cons je_int ja_nil))) (ja_cons (je_tup (ja_cons (je_tup (ja_cons je_int (ja_cons je_int ja_nil))) ja_nil)) (ja_cons (je_tup (ja_cons (je_tup ja_nil) (ja_cons (je_tup ja_nil) ja_nil))) ja_nil))))))))))))
  (js_one (js_ret (je_ix rfl (fun _ _ => rfl) (je_var (i := 1) (show 1 ∉ ([0] : List Nat) by decide) rfl (.inl (by kernel_rfl))) (jc_callI (i := 0) rfl (h__law_take_0 E) hr (show 1 ≤ 1 by decide) rfl E.gf__law_take rfl (consA_len nilA_len) (show 0 ∈ ([0] : List Nat) by decide) rfl (.inl (by kernel_rfl)) (ja_cons je_int ja_nil)))))))
theorem h__law_odd_0 (E : MG w K mg) : HeldD P w K mg base 2 (He.ga K "_law_odd") (spI (kx K (fnA K)) 1 false F__law_odd) [] := by
  obtain ⟨fd, F0⟩ := E.fd__law_odd
  exact held_N F0 (fo__law_odd E F0) (b__law_odd F0)
theorem b__law_bent {fd : FuncData} (F : FunD K "_law_bent" "_law_bent" (defArgs s__law_bent) (defBody s__law_bent) (defScope s__law_bent) [] [] (He.ga K "_law_bent") fd) : L2.Binds K fd ["_law_purse_here", "_law_thing"] [] := F.bindsN fun _ _ _ _ _ _ us hl => match us, hl with | [_, _], _ => rfl
theorem fo__law_bent (E : MG w K mg) {fd : FuncData} (F : FunD K "_law_bent" "_law_bent" (defArgs s__law_bent) (defBody s__law_bent) (defScope s__law_bent) [] [] (He.ga K "_law_bent") fd) (B : L2.Binds K fd ["_law_purse_here", "_law_thing"] []) : ∀ k, FnOk P w K mg base CX0 (2 + k + 1) (He.ga K "_law_bent") fd ["_law_purse_here", "_law_thing"] (spI (kx K (fnA K)) 2 false (F__law_bent k))
  | 0 => by
    refine F.ok sc__law_bent (fun vs H Q E h => ?_) (fun cdv A outer s H vs Q E hr hsp => ?_)
    · obtain ⟨M, a, d0, ds, vr, _, h1, _⟩ := h
      rw [h1] <;> rfl
    · obtain ⟨M, a, d0, ds, vr, _, _, _, _, _, _, h⟩ := hsp
      exact h.elim
  | k + 1 => by
    have A0 : HeldD P w K mg base (2 + k + 1) (He.ga K "_law_bent") (spI (kx K (fnA K)) 2 false (F__law_bent k)) [] := held_N F (fo__law_bent E F B k) B
    refine fn_I (lv := 2 + k + 1) (n := 2) (NN := 4) (nw := false) (own := [0]) (fb := m__law_bent (F__law_bent k)) (k := kx K (fnA K)) (N := N__law_bent) F sc__law_bent rfl rfl (by decide) (by decide) (by decide) (fun cdv A outer s H E' M H0 a hr => ?_)
    have hle := Nat.le_refl (2 + k + 1)
    unfold m__law_bent
    exact (js_cons (js_if (PW.pt (jw_and (jt_tru rfl (je_isi isiTup rfl rfl E.fr_isinstance rfl E.fr_tuple PyProof.Rows.boot_tuple (je_var (i := 1) (show 1 ∉ ([0] : List Nat) by decide) rfl (.inl (by kernel_rfl))))) (jw_and (jt_cmp (op_neT0 hr.units) opd_neT0 neT0_nx (by rfl) (je_var (i := 1) (show 1 ∉ ([0] : List Nat) by decide) rfl (.inl (by kernel_rfl))) (je_tup ja_nil)) (jw_and1 (jt_cmp op_gt opd_gt gtD_nx (by rfl) (jc_callI (i := 0) rfl (h__law_take_0 E) hr (show 1 ≤ 2 + k + 1 by omega) rfl E.gf__law_take rfl (consA_len nilA_len) (show 0 ∈ ([0] : List Nat) by decide) rfl (.inl (by kernel_rfl)) (ja_cons je_int ja_nil)) je_int))))) (js_cons (js_par (i := 2) (j := 3) (show 2 ∉ ([0] : List Nat) by decide) (free_I (show 0 ∈ ([0] : List Nat) by decide) (show (2 : Nat) ≠ 0 by decide)) (show 3 ∉ ([0] : List Nat) by decide) (free_I (show 0 ∈ ([0] : List Nat) by decide) (show (3 : Nat) ≠ 0 by decide)) rfl sc__law_bent.nd rfl rfl (show (2 : Nat) ≠ 3 by decide) (by kernel_rfl) (by kernel_rfl) (jc_callI (i := 0) rfl (h__law_take_0 E) hr (show 1 ≤ 2 + k + 1 by omega) rfl E.gf__law_take rfl (consA_len nilA_len) (show 0 ∈ ([0] : List Nat) by decide) rfl (.inl (by kernel_rfl)) (ja_cons (je_callB call_lenX cad_len lenD_nx rfl E.fr_len PySem.boot_len (ja_cons (je_var (i := 1) (show 1 ∉ ([0] : List Nat) by decide) rfl (.inl (by kernel_rfl))) ja_nil)) ja_nil)) (jc_callI (i := 0) rfl (h__law_take_0 E) hr (show 1 ≤ 2 + k + 1 by omega) rfl E.gf__law_take rfl (consA_len nilA_len) (show 0 ∈ ([0] : List Nat) by decide) rfl (.inl (by kernel_rfl)) (ja_cons je_int ja_nil)) rfl)
  (js_cons (js_if (jt_cmp (Dn.op_eqX hr.units) opd_eq eqD_nx (by rfl) (je_var (i := 3) (show 3 ∉ ([0] : List Nat) by decide) rfl (.inl (by kernel_rfl))) je_int) (js_one (js_ret (je_op Dn.op_addX opd_add addD_nx (je_sli rfl (je_var (i := 1) (show 1 ∉ ([0] : List Nat) by decide) rfl (.inl (by kernel_rfl))) jo_none (jo_some (je_var (i := 2) (show 2 ∉ ([0] : List Nat) by decide) rfl (.inl (by kernel_rfl))))) (je_sli rfl (je_var (i := 1) (show 1 ∉ ([0] : List Nat) by decide) rfl (.inl (by kernel_rfl))) (jo_some (je_op Dn.op_addX opd_add addD_nx (je_var (i := 2) (show 2 ∉ ([0] : List Nat) by decide) rfl (.inl (by kernel_rfl))) je_int)) jo_none)))) js_nil)
  (js_cons (js_if (jt_cmp (Dn.op_eqX hr.units) opd_eq eqD_nx (by rfl) (je_var (i := 3) (show 3 ∉ ([0] : List Nat) by decide) rfl (.inl (by kernel_rfl))) je_int) (js_one (js_ret (je_op Dn.op_addX opd_add addD_nx (je_sli rfl (je_var (i := 1) (show 1 ∉ ([0] : List Nat) by decide) rfl (.inl (by kernel_rfl))) jo_none (jo_some (je_op Dn.op_addX opd_add addD_nx (je_var (i := 2) (show 2 ∉ ([0] : List Nat) by decide) rfl (.inl (by kernel_rfl))) je_int))) (je_sli rfl (je_var (i := 1) (show 1 ∉ ([0] : List Nat) by decide) rfl (.inl (by kernel_rfl))) (jo_some (je_var (i := 2) (show 2 ∉ ([0] : List Nat) by decide) rfl (.inl (by kernel_rfl)))) jo_none)))) js_nil)
  (js_cons (js_if (jt_cmp (Dn.op_eqX hr.units) opd_eq eqD_nx (by rfl) (je_var (i := 3) (show 3 ∉ ([0] : List Nat) by decide) rfl (.inl (by kernel_rfl))) je_int) (js_one (js_ret (je_op Dn.op_addX opd_add addD_nx (je_op Dn.op_addX opd_add addD_nx (je_sli rfl (je_var (i := 1) (show 1 ∉ ([0] : List Nat) by decide) rfl (.inl (by kernel_rfl))) jo_none (jo_some (je_var (i := 2) (show 2 ∉ ([0] : List Nat) by decide) rfl (.inl (by kernel_rfl))))) (je_rev rfl (je_sli rfl (je_var (i := 1) (show 1 ∉ ([0] : List Nat) by decide) rfl (.inl (by kernel_rfl))) (jo_some (je_var (i := 2) (show 2 ∉ ([0] : List Nat) by decide) rfl (.inl (by kernel_rfl)))) (jo_some (je_op Dn.op_addX opd_add addD_nx (je_var (i := 2) (show 2 ∉ ([0] : List Nat) by decide) rfl (.inl (by kernel_rfl))) je_int))))) (je_sli rfl (je_var (i := 1) (show 1 ∉ ([0] : List Nat) by decide) rfl (.inl (by kernel_rfl))) (jo_some (je_op Dn.op_addX opd_add addD_nx (je_var (i := 2) (show 2 ∉ ([0] : List Nat) by decide) rfl (.inl (by kernel_rfl))) je_int)) jo_none)))) js_nil)
  (js_one (js_ret (je_op Dn.op_addX opd_add addD_nx (je_op Dn.op_addX opd_add addD_nx (je_sli rfl (je_var (i := 1) (show 1 ∉ ([0] : List Nat) by decide) rfl (.inl (by kernel_rfl))) jo_none (jo_some (je_var (i := 2) (show 2 ∉ ([0] : List Nat) by decide) rfl (.inl (by kernel_rfl))))) (je_tup (ja_cons (jc_callI (i := 0) rfl (A0) hr hle rfl E.gf__law_bent rfl (consA_len nilA_len) (show 0 ∈ ([0] : List Nat) by decide) rfl (.inl (by kernel_rfl)) (ja_cons (je_ix rfl (fun _ _ => rfl) (je_var (i := 1) (show 1 ∉ ([0] : List Nat) by decide) rfl (.inl (by kernel_rfl))) (je_var (i := 2) (show 2 ∉ ([0] : List Nat) by decide) rfl (.inl (by kernel_rfl)))) ja_nil)) ja_nil))) (je_sli rfl (je_var (i := 1) (show 1 ∉ ([0] : List Nat) by decide) rfl (.inl (by kernel_rfl))) (jo_some (je_op Dn.op_addX opd_add addD_nx (je_var (i := 2) (show 2 ∉ ([0] : List Nat) by decide) rfl (.inl (by kernel_rfl))) je_int)) jo_none)))))))) js_nil)
  (js_cons (js_if (jt_tru rfl (je_isi isiTup rfl rfl E.fr_isinstance rfl E.fr_tuple PyProof.Rows.boot_tuple (je_var (i := 1) (show 1 ∉ ([0] : List Nat) by decide) rfl (.inl (by kernel_rfl))))) (js_one (js_ret (je_ix rfl (fun _ _ => rfl) (je_lst (ja_cons (je_callTy call_list_of cad_list listD_nx rfl E.fr_list PyProof.Rows.boot_list (ja_cons (je_var (i := 1) (show 1 ∉ ([0] : List Nat) by decide) rfl (.inl (by kernel_rfl))) ja_nil)) (ja_cons (je_op Dn.op_addX opd_add addD_nx (je_var (i := 1) (show 1 ∉ ([0] : List Nat) by decide) rfl (.inl (by kernel_rfl))) (je_tup (ja_cons (jc_callI (i := 0) rfl (h__law_odd_0 E) hr (show 2 ≤ 2 + k + 1 by omega) rfl E.gf__law_odd rfl nilA_len (show 0 ∈ ([0] : List Nat) by decide) rfl (.inl (by kernel_rfl)) ja_nil) ja_nil))) (ja_cons (je_rev rfl (je_var (i := 1) (show 1 ∉ ([0] : List Nat) by decide) rfl (.inl (by kernel_rfl)))) (ja_cons (jc_callI (i := 0) rfl (h__law_odd_0 E) hr (show 2 ≤ 2 + k + 1 by omega) rfl E.gf__law_odd rfl nilA_len (show 0 ∈ ([0] : List Nat) by decide) rfl (.inl (by kernel_rfl)) ja_nil) ja_nil))))) (jc_callI (i := 0) rfl (h__law_take_0 E) hr (show 1 ≤ 2 + k + 1 by omega) rfl E.gf__law_take rfl (consA_len nilA_len) (show 0 ∈ ([0] : List Nat) by decide) rfl (.inl (by kernel_rfl)) (ja_cons je_int ja_nil))))) js_nil)
  (js_cons (js_if (jt_tru rfl (je_isi isiBool rfl rfl E.fr_isinstance rfl E.fr_bool PyProof.Rows.boot_bool (je_var (i := 1) (show 1 ∉ ([0] : List Nat) by decide) rfl (.inl (by kernel_rfl))))) (js_one (js_ret (je_ix rfl (fun _ _ => rfl) (je_lst (ja_cons (je_not (je_var (i := 1) (show 1 ∉ ([0] : List Nat) by decide) rfl (.inl (by kernel_rfl)))) (ja_cons (je_callTy call_int1 cad_int intD_nx rfl E.fr_int PyProof.Rows.boot_int (ja_cons (je_var (i := 1) (show 1 ∉ ([0] : List Nat) by decide) rfl (.inl (by kernel_rfl))) ja_nil)) (ja_cons (jc_callI (i := 0) rfl (h__law_odd_0 E) hr (show 2 ≤ 2 + k + 1 by omega) rfl E.gf__law_odd rfl nilA_len (show 0 ∈ ([0] : List Nat) by decide) rfl (.inl (by kernel_rfl)) ja_nil) ja_nil)))) (jc_callI (i := 0) rfl (h__law_take_0 E) hr (show 1 ≤ 2 + k + 1 by omega) rfl E.gf__law_take rfl (consA_len nilA_len) (show 0 ∈ ([0] : List Nat) by decide) rfl (.inl (by kernel_rfl)) (ja_cons je_int ja_nil))))) js_nil)
  (js_cons (js_if (jt_tru rfl (je_isi isiInt rfl rfl E.fr_isinstance rfl E.fr_int PyProof.Rows.boot_int (je_var (i := 1) (show 1 ∉ ([0] : List Nat) by decide) rfl (.inl (by kernel_rfl))))) (js_one (js_ret (je_ix rfl (fun _ _ => rfl) (je_lst (ja_cons (je_op Dn.op_addX opd_add addD_nx (je_var (i := 1) (show 1 ∉ ([0] : List Nat) by decide) rfl (.inl (by kernel_rfl))) je_int) (ja_cons (je_op op_sub opd_sub subD_nx (je_var (i := 1) (show 1 ∉ ([0] : List Nat) by decide) rfl (.inl (by kernel_rfl))) je_int) (ja_cons (je_cmp (Dn.op_eqX hr.units) opd_eq eqD_nx (by rfl) (je_var (i := 1) (show 1 ∉ ([0] : List Nat) by decide) rfl (.inl (by kernel_rfl))) je_int) (ja_cons (jc_callI (i := 0) rfl (h__law_odd_0 E) hr (show 2 ≤ 2 + k + 1 by omega) rfl E.gf__law_odd rfl nilA_len (show 0 ∈ ([0] : List Nat) by decide) rfl (.inl (by kernel_rfl)) ja_nil) (ja_cons (je_op Dn.op_addX opd_add addD_nx (je_var (i := 1) (show 1 ∉ ([0] : List Nat) by decide) rfl (.inl (by kernel_rfl))) je_int) ja_nil)))))) (jc_callI (i := 0) rfl (h__law_take_0 E) hr (show 1 ≤ 2 + k + 1 by omega) rfl E.gf__law_take rfl (consA_len nilA_len) (show 0 ∈ ([0] : List Nat) by decide) rfl (.inl (by kernel_rfl)) (ja_cons je_int ja_nil))))) js_nil)
  (js_cons (js_if (jt_tru rfl (je_isi isiStr rfl rfl E.fr_isinstance rfl E.fr_str PyProof.Rows.boot_str (je_var (i := 1) (show 1 ∉ ([0] : List Nat) by decide) rfl (.inl (by kernel_rfl))))) (js_one (js_ret (je_ix rfl (fun _ _ => rfl) (je_lst (ja_cons (je_op Dn.op_addX opd_add addD_nx (je_var (i := 1) (show 1 ∉ ([0] : List Nat) by decide) rfl (.inl (by kernel_rfl))) je_str) (ja_cons (je_sli rfl (je_var (i := 1) (show 1 ∉ ([0] : List Nat) by decide) rfl (.inl (by kernel_rfl))) (jo_some je_int) jo_none) (ja_cons (je_rev rfl (je_var (i := 1) (show 1 ∉ ([0] : List Nat) by decide) rfl (.inl (by kernel_rfl)))) (ja_cons (je_upper (je_var (i := 1) (show 1 ∉ ([0] : List Nat) by decide) rfl (.inl (by kernel_rfl)))) (ja_cons (jc_callI (i := 0) rfl (h__law_odd_0 E) hr (show 2 ≤ 2 + k + 1 by omega) rfl E.gf__law_odd rfl nilA_len (show 0 ∈ ([0] : List Nat) by decide) rfl (.inl (by kernel_rfl)) ja_nil) ja_nil)))))) (jc_callI (i := 0) rfl (h__law_take_0 E) hr (show 1 ≤ 2 + k + 1 by omega) rfl E.gf__law_take rfl (consA_len nilA_len) (show 0 ∈ ([0] : List Nat) by decide) rfl (.inl (by kernel_rfl)) (ja_cons je_int ja_nil))))) js_nil)
  (js_one (js_ret (jc_callI (i := 0) rfl (h__law_odd_0 E) hr (show 2 ≤ 2 + k + 1 by omega) rfl E.gf__law_odd rfl nilA_len (show 0 ∈ ([0] : List Nat) by decide) rfl (.inl (by kernel_rfl)) ja_nil))))))))
theorem h__law_bent_0 (E : MG w K mg) (k : Nat) : HeldD P w K mg base (2 + k + 1) (He.ga K "_law_bent") (spI (kx K (fnA K)) 2 false (F__law_bent k)) [] := by
  obtain ⟨fd, F0⟩ := E.fd__law_bent
  exact held_N F0 (fo__law_bent E F0 (b__law_bent F0) k) (b__law_bent F0)
theorem b__law_spoilt {fd : FuncData} (F : FunD K "_law_spoilt" "_law_spoilt" (defArgs s__law_spoilt) (defBody s__law_spoilt) (defScope s__law_spoilt) [] [] (He.ga K "_law_spoilt") fd) : L2.Binds K fd ["_law_purse_here", "_law_say_so", "_law_sheet"] [] := F.bindsN fun _ _ _ _ _ _ us hl => match us, hl with | [_, _, _], _ => rfl
theorem fo__law_spoilt (E : MG w K mg) {fd : FuncData} (F : FunD K "_law_spoilt" "_law_spoilt" (defArgs s__law_spoilt) (defBody s__law_spoilt) (defScope s__law_spoilt) [] [] (He.ga K "_law_spoilt") fd) : FnOk P w K mg base CX0 16 (He.ga K "_law_spoilt") fd ["_law_purse_here", "_law_say_so", "_law_sheet"] (spI (kx K (fnA K)) 3 false F__law_spoilt) := by
  refine fn_I (lv := 15) (n := 3) (NN := 5) (nw := false) (own := [0]) (fb := m__law_spoilt) (k := kx K (fnA K)) (N := N__law_spoilt) F sc__law_spoilt rfl rfl (by decide) (by decide) (by decide) (fun cdv A outer s H E' M H0 a hr => ?_)
  unfold m__law_spoilt
  exact (js_cons (js_for (nmG_nx 3) PassesOwn.never rfl (ji_rng1 rfl E.fr_range (ja_cons (je_op Dn.op_addX opd_add addD_nx je_int (jc_callI (i := 0) rfl (h__law_take_0 E) hr (show 1 ≤ 15 by decide) rfl E.gf__law_take rfl (consA_len nilA_len) (show 0 ∈ ([0] : List Nat) by decide) rfl (.inl (by kernel_rfl)) (ja_cons je_int ja_nil))) ja_nil)) (jg_name (i := 3) (show 3 ∉ ([0] : List Nat) by decide) (free_I (show 0 ∈ ([0] : List Nat) by decide) (show (3 : Nat) ≠ 0 by decide)) sc__law_spoilt.nd rfl (.inl (by kernel_rfl)) (.inl rfl))
  (js_cons (js_set (i := 4) (show 4 ∉ ([0] : List Nat) by decide) (free_I (show 0 ∈ ([0] : List Nat) by decide) (show (4 : Nat) ≠ 0 by decide)) sc__law_spoilt.nd rfl (.inl (by kernel_rfl)) (.inl rfl) (jc_callI (i := 0) rfl (h__law_take_0 E) hr (show 1 ≤ 15 by decide) rfl E.gf__law_take rfl (consA_len nilA_len) (show 0 ∈ ([0] : List Nat) by decide) rfl (.inl (by kernel_rfl)) (ja_cons (je_callB call_lenX cad_len lenD_nx rfl E.fr_len PySem.boot_len (ja_cons (je_var (i := 1) (show 1 ∉ ([0] : List Nat) by decide) rfl (.inl (by kernel_rfl))) ja_nil)) ja_nil)))
  (js_one (js_if (jt_cmp (Dn.op_eqX hr.units) opd_eq eqD_nx (by rfl) (je_var (i := 4) (show 4 ∉ ([0] : List Nat) by decide) rfl (.inl (by kernel_rfl))) je_int) (js_one (js_set (i := 2) (show 2 ∉ ([0] : List Nat) by decide) (free_I (show 0 ∈ ([0] : List Nat) by decide) (show (2 : Nat) ≠ 0 by decide)) sc__law_spoilt.nd rfl (.inl (by kernel_rfl)) (.inl rfl) (jc_callI (i := 0) rfl (h__law_bent_0 E 12) hr (show 2 + 12 + 1 ≤ 15 by decide) rfl E.gf__law_bent rfl (consA_len nilA_len) (show 0 ∈ ([0] : List Nat) by decide) rfl (.inl (by kernel_rfl)) (ja_cons (je_var (i := 2) (show 2 ∉ ([0] : List Nat) by decide) rfl (.inl (by kernel_rfl))) ja_nil)))) (js_one (js_set (i := 1) (show 1 ∉ ([0] : List Nat) by decide) (free_I (show 0 ∈ ([0] : List Nat) by decide) (show (1 : Nat) ≠ 0 by decide)) sc__law_spoilt.nd rfl (.inl (by kernel_rfl)) (.inl rfl) (je_op Dn.op_addX opd_add addD_nx (je_op Dn.op_addX opd_add addD_nx (je_sli rfl (je_var (i := 1) (show 1 ∉ ([0] : List Nat) by decide) rfl (.inl (by kernel_rfl))) jo_none (jo_some (je_var (i := 4) (show 4 ∉ ([0] : List Nat) by decide) rfl (.inl (by kernel_rfl))))) (je_tup (ja_cons (jc_callI (i := 0) rfl (h__law_bent_0 E 12) hr (show 2 + 12 + 1 ≤ 15 by decide) rfl E.gf__law_bent rfl (consA_len nilA_len) (show 0 ∈ ([0] : List Nat) by decide) rfl (.inl (by kernel_rfl)) (ja_cons (je_ix rfl (fun _ _ => rfl) (je_var (i := 1) (show 1 ∉ ([0] : List Nat) by decide) rfl (.inl (by kernel_rfl))) (je_var (i := 4) (show 4 ∉ ([0] : List Nat) by decide) rfl (.inl (by kernel_rfl)))) ja_nil)) ja_nil))) (je_sli rfl (je_var (i := 1) (show 1 ∉ ([0] : List Nat) by decide) rfl (.inl (by kernel_rfl))) (jo_some (je_op Dn.op_addX opd_add addD_nx (je_var (i := 4) (show 4 ∉ ([0] : List Nat) by decide) rfl (.inl (by kernel_rfl))) je_int)) jo_none))))))))
  (js_one (js_ret (je_tup (ja_cons (je_var (i := 1) (show 1 ∉ ([0] : List Nat) by decide) rfl (.inl (by kernel_rfl))) (ja_cons (je_var (i := 2) (show 2 ∉ ([0] : List Nat) by decide) rfl (.inl (by kernel_rfl))) ja_nil))))))
theorem h__law_spoilt_0 (E : MG w K mg) : HeldD P w K mg base 16 (He.ga K "_law_spoilt") (spI (kx K (fnA K)) 3 false F__law_spoilt) [] := by
  obtain ⟨fd, F0⟩ := E.fd__law_spoilt
  exact held_N F0 (fo__law_spoilt E F0) (b__law_spoilt F0)
theorem b__law_whole {fd : FuncData} (F : FunD K "_law_whole" "_law_whole" (defArgs s__law_whole) (defBody s__law_whole) (defScope s__law_whole) [] [] (He.ga K "_law_whole") fd) : L2.Binds K fd ["_law_thing"] [] := F.bindsN fun _ _ _ _ _ _ us hl => match us, hl with | [_], _ => rfl
theorem fo__law_whole (E : MG w K mg) {fd : FuncData} (F : FunD K "_law_whole" "_law_whole" (defArgs s__law_whole) (defBody s__law_whole) (defScope s__law_whole) [] [] (He.ga K "_law_whole") fd) : FnOk P w K mg base CX0 1 (He.ga K "_law_whole") fd ["_law_thing"] (spP (kx K (fnA K)) 1 false F__law_whole) := by
  refine fn_P (lv := 0) (n := 1) (NN := 1) (nw := false) (own := []) (fb := m__law_whole) (k := kx K (fnA K)) (N := N__law_whole) F sc__law_whole rfl rfl (by decide) (fun cdv A outer s H E' M H0 W hr => ?_)
  unfold m__law_whole
  exact (js_one (js_ret (je_and (je_isi isiInt rfl rfl E.fr_isinstance rfl E.fr_int PyProof.Rows.boot_int (je_var (i := 0) (show 0 ∉ ([] : List Nat) by decide) rfl (.inl (by kernel_rfl)))) (je_and (je_not (je_isi isiBool rfl rfl E.fr_isinstance rfl E.fr_bool PyProof.Rows.boot_bool (je_var (i := 0) (show 0 ∉ ([] : List Nat) by decide) rfl (.inl (by kernel_rfl))))) (je_one (je_cmp op_ge opd_ge geD_nx (by rfl) (je_var (i := 0) (show 0 ∉ ([] : List Nat) by decide) rfl (.inl (by kernel_rfl))) je_int))))))
theorem h__law_whole_0 (E : MG w K mg) : HeldD P w K mg base 1 (He.ga K "_law_whole") (spP (kx K (fnA K)) 1 false F__law_whole) [] := by
  obtain ⟨fd, F0⟩ := E.fd__law_whole
  exact held_N F0 (fo__law_whole E F0) (b__law_whole F0)
theorem b__law_is_row {fd : FuncData} (F : FunD K "_law_is_row" "_law_is_row" (defArgs s__law_is_row) (defBody s__law_is_row) (defScope s__law_is_row) [] [] (He.ga K "_law_is_row") fd) : L2.Binds K fd ["_law_thing"] [] := F.bindsN fun _ _ _ _ _ _ us hl => match us, hl with | [_], _ => rfl
theorem fo__law_is_row (E : MG w K mg) {fd : FuncData} (F : FunD K "_law_is_row" "_law_is_row" (defArgs s__law_is_row) (defBody s__law_is_row) (defScope s__law_is_row) [] [] (He.ga K "_law_is_row") fd) : FnOk P w K mg base CX0 2 (He.ga K "_law_is_row") fd ["_law_thing"] (spP (kx K (fnA K)) 1 false F__law_is_row) := by
  refine fn_P (lv := 1) (n := 1) (NN := 2) (nw := false) (own := []) (fb := m__law_is_row) (k := kx K (fnA K)) (N := N__law_is_row) F sc__law_is_row rfl rfl (by decide) (fun cdv A outer s H E' M H0 W hr => ?_)
  unfold m__law_is_row
  exact (js_cons (js_if (PW.pt (jw_or (jt_not (jt_tru rfl (je_isi isiTup rfl rfl E.fr_isinstance rfl E.fr_tuple PyProof.Rows.boot_tuple (je_var (i := 0) (show 0 ∉ ([] : List Nat) by decide) rfl (.inl (by kernel_rfl)))))) (jw_or (jt_cmp (Dn.op_neX hr.units) opd_ne neD_nx (by rfl) (je_callB call_lenX cad_len lenD_nx rfl E.fr_len PySem.boot_len (ja_cons (je_var (i := 0) (show 0 ∉ ([] : List Nat) by decide) rfl (.inl (by kernel_rfl))) ja_nil)) je_int) (jw_or1 (jt_not (jt_tru rfl (je_callB (cr_all rfl) cad_all allD_nx rfl E.fr_all PyProof.Rows.boot_all (ja_cons (je_of (jf_lc (own := [("_law_part", 1)]) rfl sc__law_is_row.nd (okv_P rfl (show ∀ v ∈ ([1] : List Nat), v ∉ ([] : List Nat) by decide)) (ji_seq rfl (je_var (i := 0) (show 0 ∉ ([] : List Nat) by decide) rfl (.inl (by kernel_rfl)))) (blkOk_by (own := [("_law_part", 1)]) (N := N__law_is_row) (sc := defScope s__law_is_row) (by decide +kernel)) (fun _ _ _ _ _ _ => (jv_name (i := 1) (by decide) (show 1 ∉ ([] : List Nat) by decide) (free_P rfl) sc__law_is_row.nd rfl (.inl (by kernel_rfl)) (.inr (by kernel_rfl)))) (fun _ _ _ _ _ _ => jts_nil) (fun _ _ _ _ _ _ => (jc_call (h__law_whole_0 E) hr (show 1 ≤ 1 by decide) rfl E.gf__law_whole (fun _ _ => rfl) rfl (consA_len nilA_len) (ja_cons (je_var (i := 1) (show 1 ∉ ([] : List Nat) by decide) rfl (.inl (by kernel_rfl))) ja_nil))))) ja_nil)))))))) (js_one (js_ret je_bl)) js_nil)
  (js_one (js_ret (je_and (je_cmp op_le opd_le leD_nx (by rfl) (je_ix rfl (fun _ _ => rfl) (je_var (i := 0) (show 0 ∉ ([] : List Nat) by decide) rfl (.inl (by kernel_rfl))) je_int) je_int) (je_one (je_cmp (Dn.op_eqX hr.units) opd_eq eqD_nx (by rfl) (je_cmp (Dn.op_eqX hr.units) opd_eq eqD_nx (by rfl) (je_ix rfl (fun _ _ => rfl) (je_var (i := 0) (show 0 ∉ ([] : List Nat) by decide) rfl (.inl (by kernel_rfl))) je_int) je_int) (je_cmp (Dn.op_eqX hr.units) opd_eq eqD_nx (by rfl) (je_ix rfl (fun _ _ => rfl) (je_var (i := 0) (show 0 ∉ ([] : List Nat) by decide) rfl (.inl (by kernel_rfl))) je_int) je_int)))))))
theorem h__law_is_row_0 (E : MG w K mg) : HeldD P w K mg base 2 (He.ga K "_law_is_row") (spP (kx K (fnA K)) 1 false F__law_is_row) [] := by
  obtain ⟨fd, F0⟩ := E.fd__law_is_row
  exact held_N F0 (fo__law_is_row E F0) (b__law_is_row F0)
theorem b__law_shared {fd : FuncData} (F : FunD K "_law_shared" "_law_shared" (defArgs s__law_shared) (defBody s__law_shared) (defScope s__law_shared) [] [] (He.ga K "_law_shared") fd) : L2.Binds K fd ["_law_one", "_law_other"] [] := F.bindsN fun _ _ _ _ _ _ us hl => match us, hl with | [_, _], _ => rfl
theorem fo__law_shared (E : MG w K mg) {fd : FuncData} (F : FunD K "_law_shared" "_law_shared" (defArgs s__law_shared) (defBody s__law_shared) (defScope s__law_shared) [] [] (He.ga K "_law_shared") fd) : FnOk P w K mg base CX0 1 (He.ga K "_law_shared") fd ["_law_one", "_law_other"] (spP (kx K (fnA K)) 2 false F__law_shared) := by
  refine fn_P (lv := 0) (n := 2) (NN := 2) (nw := false) (own := []) (fb := m__law_shared) (k := kx K (fnA K)) (N := N__law_shared) F sc__law_shared rfl rfl (by decide) (fun cdv A outer s H E' M H0 W hr => ?_)
  unfold m__law_shared
  exact (js_cons (js_while 1000000 PassesOwn.never (jt_cmp op_gt opd_gt gtD_nx (by rfl) (je_var (i := 1) (show 1 ∉ ([] : List Nat) by decide) rfl (.inl (by kernel_rfl))) je_int)
  (js_one (js_par (i := 0) (j := 1) (show 0 ∉ ([] : List Nat) by decide) (free_P rfl) (show 1 ∉ ([] : List Nat) by decide) (free_P rfl) rfl sc__law_shared.nd rfl rfl (show (0 : Nat) ≠ 1 by decide) (by kernel_rfl) (by kernel_rfl) (je_var (i := 1) (show 1 ∉ ([] : List Nat) by decide) rfl (.inl (by kernel_rfl))) (je_op op_modN opd_mod modD_nx (je_var (i := 0) (show 0 ∉ ([] : List Nat) by decide) rfl (.inl (by kernel_rfl))) (je_var (i := 1) (show 1 ∉ ([] : List Nat) by decide) rfl (.inl (by kernel_rfl)))) rfl)))
  (js_one (js_ret (je_var (i := 0) (show 0 ∉ ([] : List Nat) by decide) rfl (.inl (by kernel_rfl))))))
theorem h__law_shared_0 (E : MG w K mg) : HeldD P w K mg base 1 (He.ga K "_law_shared") (spP (kx K (fnA K)) 2 false F__law_shared) [] := by
  obtain ⟨fd, F0⟩ := E.fd__law_shared
  exact held_N F0 (fo__law_shared E F0) (b__law_shared F0)
theorem b__law_meets {fd : FuncData} (F : FunD K "_law_meets" "_law_meets" (defArgs s__law_meets) (defBody s__law_meets) (defScope s__law_meets) [] [] (He.ga K "_law_meets") fd) : L2.Binds K fd ["_law_begin", "_law_step", "_law_start", "_law_pace"] [] := F.bindsN fun _ _ _ _ _ _ us hl => match us, hl with | [_, _, _, _], _ => rfl
theorem fo__law_meets (E : MG w K mg) {fd : FuncData} (F : FunD K "_law_meets" "_law_meets" (defArgs s__law_meets) (defBody s__law_meets) (defScope s__law_meets) [] [] (He.ga K "_law_meets") fd) : FnOk P w K mg base CX0 2 (He.ga K "_law_meets") fd ["_law_begin", "_law_step", "_law_start", "_law_pace"] (spP (kx K (fnA K)) 4 false F__law_meets) := by
  refine fn_P (lv := 1) (n := 4) (NN := 4) (nw := false) (own := []) (fb := m__law_meets) (k := kx K (fnA K)) (N := N__law_meets) F sc__law_meets rfl rfl (by decide) (fun cdv A outer s H E' M H0 W hr => ?_)
  unfold m__law_meets
  exact (js_cons (js_if (PW.pt (jw_and (jt_cmp (Dn.op_eqX hr.units) opd_eq eqD_nx (by rfl) (je_var (i := 1) (show 1 ∉ ([] : List Nat) by decide) rfl (.inl (by kernel_rfl))) je_int) (jw_and1 (jt_cmp (Dn.op_eqX hr.units) opd_eq eqD_nx (by rfl) (je_var (i := 3) (show 3 ∉ ([] : List Nat) by decide) rfl (.inl (by kernel_rfl))) je_int)))) (js_one (js_ret (je_cmp (Dn.op_eqX hr.units) opd_eq eqD_nx (by rfl) (je_var (i := 0) (show 0 ∉ ([] : List Nat) by decide) rfl (.inl (by kernel_rfl))) (je_var (i := 2) (show 2 ∉ ([] : List Nat) by decide) rfl (.inl (by kernel_rfl)))))) js_nil)
  (js_cons (js_if (jt_cmp (Dn.op_eqX hr.units) opd_eq eqD_nx (by rfl) (je_var (i := 1) (show 1 ∉ ([] : List Nat) by decide) rfl (.inl (by kernel_rfl))) je_int) (js_one (js_ret (je_and (je_cmp op_ge opd_ge geD_nx (by rfl) (je_var (i := 0) (show 0 ∉ ([] : List Nat) by decide) rfl (.inl (by kernel_rfl))) (je_var (i := 2) (show 2 ∉ ([] : List Nat) by decide) rfl (.inl (by kernel_rfl)))) (je_one (je_cmp (Dn.op_eqX hr.units) opd_eq eqD_nx (by rfl) (je_op op_modN opd_mod modD_nx (je_op op_sub opd_sub subD_nx (je_var (i := 0) (show 0 ∉ ([] : List Nat) by decide) rfl (.inl (by kernel_rfl))) (je_var (i := 2) (show 2 ∉ ([] : List Nat) by decide) rfl (.inl (by kernel_rfl)))) (je_var (i := 3) (show 3 ∉ ([] : List Nat) by decide) rfl (.inl (by kernel_rfl)))) je_int))))) js_nil)
  (js_cons (js_if (jt_cmp (Dn.op_eqX hr.units) opd_eq eqD_nx (by rfl) (je_var (i := 3) (show 3 ∉ ([] : List Nat) by decide) rfl (.inl (by kernel_rfl))) je_int) (js_one (js_ret (je_and (je_cmp op_ge opd_ge geD_nx (by rfl) (je_var (i := 2) (show 2 ∉ ([] : List Nat) by decide) rfl (.inl (by kernel_rfl))) (je_var (i := 0) (show 0 ∉ ([] : List Nat) by decide) rfl (.inl (by kernel_rfl)))) (je_one (je_cmp (Dn.op_eqX hr.units) opd_eq eqD_nx (by rfl) (je_op op_modN opd_mod modD_nx (je_op op_sub opd_sub subD_nx (je_var (i := 2) (show 2 ∉ ([] : List Nat) by decide) rfl (.inl (by kernel_rfl))) (je_var (i := 0) (show 0 ∉ ([] : List Nat) by decide) rfl (.inl (by kernel_rfl)))) (je_var (i := 1) (show 1 ∉ ([] : List Nat) by decide) rfl (.inl (by kernel_rfl)))) je_int))))) js_nil)
  (js_one (js_ret (je_cmp (Dn.op_eqX hr.units) opd_eq eqD_nx (by rfl) (je_op op_modN opd_mod modD_nx (je_op op_sub opd_sub subD_nx (je_var (i := 0) (show 0 ∉ ([] : List Nat) by decide) rfl (.inl (by kernel_rfl))) (je_var (i := 2) (show 2 ∉ ([] : List Nat) by decide) rfl (.inl (by kernel_rfl)))) (jc_call (h__law_shared_0 E) hr (show 1 ≤ 1 by decide) rfl E.gf__law_shared (fun _ _ => rfl) rfl (consA_len (consA_len nilA_len)) (ja_cons (je_var (i := 1) (show 1 ∉ ([] : List Nat) by decide) rfl (.inl (by kernel_rfl))) (ja_cons (je_var (i := 3) (show 3 ∉ ([] : List Nat) by decide) rfl (.inl (by kernel_rfl))) ja_nil)))) je_int))))))
theorem h__law_meets_0 (E : MG w K mg) : HeldD P w K mg base 2 (He.ga K "_law_meets") (spP (kx K (fnA K)) 4 false F__law_meets) [] := by
  obtain ⟨fd, F0⟩ := E.fd__law_meets
  exact held_N F0 (fo__law_meets E F0) (b__law_meets F0)
theorem b__law_fault {fd : FuncData} (F : FunD K "_law_fault" "_law_fault" (defArgs s__law_fault) (defBody s__law_fault) (defScope s__law_fault) [] [] (He.ga K "_law_fault") fd) : L2.Binds K fd ["_law_thing"] [] := F.bindsN fun _ _ _ _ _ _ us hl => match us, hl with | [_], _ => rfl
theorem fo__law_fault (E : MG w K mg) {fd : FuncData} (F : FunD K "_law_fault" "_law_fault" (defArgs s__law_fault) (defBody s__law_fault) (defScope s__law_fault) [] [] (He.ga K "_law_fault") fd) : FnOk P w K mg base CX0 3 (He.ga K "_law_fault") fd ["_law_thing"] (spP (kx K (fnA K)) 1 false F__law_fault) := by
  refine fn_P (lv := 2) (n := 1) (NN := 5) (nw := false) (own := []) (fb := m__law_fault) (k := kx K (fnA K)) (N := N__law_fault) F sc__law_fault rfl rfl (by decide) (fun cdv A outer s H E' M H0 W hr => ?_)
  unfold m__law_fault
  exact (js_cons (js_if (PW.pt (jw_or (jt_not (jt_tru rfl (je_isi isiTup rfl rfl E.fr_isinstance rfl E.fr_tuple PyProof.Rows.boot_tuple (je_var (i := 0) (show 0 ∉ ([] : List Nat) by decide) rfl (.inl (by kernel_rfl)))))) (jw_or1 (jt_cmp op_gt opd_gt gtD_nx (by rfl) (je_callB call_lenX cad_len lenD_nx rfl E.fr_len PySem.boot_len (ja_cons (je_var (i := 0) (show 0 ∉ ([] : List Nat) by decide) rfl (.inl (by kernel_rfl))) ja_nil)) je_int)))) (js_one (js_ret (je_tup (ja_cons je_non ja_nil)))) js_nil)
  (js_cons (js_set (i := 1) (show 1 ∉ ([] : List Nat) by decide) (free_P rfl) sc__law_fault.nd rfl (.inl (by kernel_rfl)) (.inl rfl) je_int)
  (js_cons (js_for (nmG_nx 2) PassesOwn.never rfl (ji_rng1 rfl E.fr_range (ja_cons (je_callB call_lenX cad_len lenD_nx rfl E.fr_len PySem.boot_len (ja_cons (je_var (i := 0) (show 0 ∉ ([] : List Nat) by decide) rfl (.inl (by kernel_rfl))) ja_nil)) ja_nil)) (jg_name (i := 2) (show 2 ∉ ([] : List Nat) by decide) (free_P rfl) sc__law_fault.nd rfl (.inl (by kernel_rfl)) (.inl rfl))
  (js_cons (js_set (i := 3) (show 3 ∉ ([] : List Nat) by decide) (free_P rfl) sc__law_fault.nd rfl (.inl (by kernel_rfl)) (.inl rfl) (je_ix rfl (fun _ _ => rfl) (je_var (i := 0) (show 0 ∉ ([] : List Nat) by decide) rfl (.inl (by kernel_rfl))) (je_var (i := 2) (show 2 ∉ ([] : List Nat) by decide) rfl (.inl (by kernel_rfl)))))
  (js_cons (js_if (jt_not (jt_tru rfl (jc_call (h__law_is_row_0 E) hr (show 2 ≤ 2 by decide) rfl E.gf__law_is_row (fun _ _ => rfl) rfl (consA_len nilA_len) (ja_cons (je_var (i := 3) (show 3 ∉ ([] : List Nat) by decide) rfl (.inl (by kernel_rfl))) ja_nil)))) (js_one (js_ret (je_tup (ja_cons (je_var (i := 2) (show 2 ∉ ([] : List Nat) by decide) rfl (.inl (by kernel_rfl))) ja_nil)))) js_nil)
  (js_cons (js_set (i := 1) (show 1 ∉ ([] : List Nat) by decide) (free_P rfl) sc__law_fault.nd rfl (.inl (by kernel_rfl)) (.inl rfl) (je_op Dn.op_divX opd_fdiv fdivD_nx (je_op Dn.op_mulX opd_mul mulD_nx (je_var (i := 1) (show 1 ∉ ([] : List Nat) by decide) rfl (.inl (by kernel_rfl))) (je_callB (call_maxX rfl) cad_max maxD_nx rfl E.fr_max PyProof.Rows.boot_max (ja_cons je_int (ja_cons (je_ix rfl (fun _ _ => rfl) (je_var (i := 3) (show 3 ∉ ([] : List Nat) by decide) rfl (.inl (by kernel_rfl))) je_int) ja_nil)))) (jc_call (h__law_shared_0 E) hr (show 1 ≤ 2 by decide) rfl E.gf__law_shared (fun _ _ => rfl) rfl (consA_len (consA_len nilA_len)) (ja_cons (je_var (i := 1) (show 1 ∉ ([] : List Nat) by decide) rfl (.inl (by kernel_rfl))) (ja_cons (je_callB (call_maxX rfl) cad_max maxD_nx rfl E.fr_max PyProof.Rows.boot_max (ja_cons je_int (ja_cons (je_ix rfl (fun _ _ => rfl) (je_var (i := 3) (show 3 ∉ ([] : List Nat) by decide) rfl (.inl (by kernel_rfl))) je_int) ja_nil))) ja_nil)))))
  (js_cons (js_if (jt_cmp op_gt opd_gt gtD_nx (by rfl) (je_var (i := 1) (show 1 ∉ ([] : List Nat) by decide) rfl (.inl (by kernel_rfl))) je_int) (js_one (js_ret (je_tup (ja_cons (je_var (i := 2) (show 2 ∉ ([] : List Nat) by decide) rfl (.inl (by kernel_rfl))) ja_nil)))) js_nil)
  (js_one (js_for (nmG_nx 4) PassesOwn.never rfl (ji_seq rfl (je_sli rfl (je_var (i := 0) (show 0 ∉ ([] : List Nat) by decide) rfl (.inl (by kernel_rfl))) jo_none (jo_some (je_var (i := 2) (show 2 ∉ ([] : List Nat) by decide) rfl (.inl (by kernel_rfl)))))) (jg_name (i := 4) (show 4 ∉ ([] : List Nat) by decide) (free_P rfl) sc__law_fault.nd rfl (.inl (by kernel_rfl)) (.inl rfl))
  (js_one (js_if (PW.pt (jw_or (jt_tru rfl (jc_call (h__law_meets_0 E) hr (show 2 ≤ 2 by decide) rfl E.gf__law_meets (fun _ _ => rfl) rfl (consA_len (consA_len (consA_len (consA_len nilA_len)))) (ja_cons (je_ix rfl (fun _ _ => rfl) (je_var (i := 3) (show 3 ∉ ([] : List Nat) by decide) rfl (.inl (by kernel_rfl))) je_int) (ja_cons (je_ix rfl (fun _ _ => rfl) (je_var (i := 3) (show 3 ∉ ([] : List Nat) by decide) rfl (.inl (by kernel_rfl))) je_int) (ja_cons (je_ix rfl (fun _ _ => rfl) (je_var (i := 4) (show 4 ∉ ([] : List Nat) by decide) rfl (.inl (by kernel_rfl))) je_int) (ja_cons (je_ix rfl (fun _ _ => rfl) (je_var (i := 4) (show 4 ∉ ([] : List Nat) by decide) rfl (.inl (by kernel_rfl))) je_int) ja_nil)))))) (jw_or1 (jt_tru rfl (jc_call (h__law_meets_0 E) hr (show 2 ≤ 2 by decide) rfl E.gf__law_meets (fun _ _ => rfl) rfl (consA_len (consA_len (consA_len (consA_len nilA_len)))) (ja_cons (je_ix rfl (fun _ _ => rfl) (je_var (i := 3) (show 3 ∉ ([] : List Nat) by decide) rfl (.inl (by kernel_rfl))) je_int) (ja_cons (je_ix rfl (fun _ _ => rfl) (je_var (i := 3) (show 3 ∉ ([] : List Nat) by decide) rfl (.inl (by kernel_rfl))) je_int) (ja_cons (je_ix rfl (fun _ _ => rfl) (je_var (i := 4) (show 4 ∉ ([] : List Nat) by decide) rfl (.inl (by kernel_rfl))) je_int) (ja_cons (je_ix rfl (fun _ _ => rfl) (je_var (i := 4) (show 4 ∉ ([] : List Nat) by decide) rfl (.inl (by kernel_rfl))) je_int) ja_nil))))))))) (js_one (js_ret (je_tup (ja_cons (je_var (i := 2) (show 2 ∉ ([] : List Nat) by decide) rfl (.inl (by kernel_rfl))) ja_nil)))) js_nil)))))))))
  (js_one (js_ret (je_tup ja_nil))))))
theorem h__law_fault_0 (E : MG w K mg) : HeldD P w K mg base 3 (He.ga K "_law_fault") (spP (kx K (fnA K)) 1 false F__law_fault) [] := by
  obtain ⟨fd, F0⟩ := E.fd__law_fault
  exact held_N F0 (fo__law_fault E F0) (b__law_fault F0)
theorem b__law_lies {fd : FuncData} (F : FunD K "_law_lies" "_law_lies" (defArgs s__law_lies) (defBody s__law_lies) (defScope s__law_lies) [] [] (He.ga K "_law_lies") fd) : L2.Binds K fd ["_law_say_so", "_law_sheet"] [] := F.bindsN fun _ _ _ _ _ _ us hl => match us, hl with | [_, _], _ => rfl
theorem fo__law_lies (E : MG w K mg) {fd : FuncData} (F : FunD K "_law_lies" "_law_lies" (defArgs s__law_lies) (defBody s__law_lies) (defScope s__law_lies) [] [] (He.ga K "_law_lies") fd) : FnOk P w K mg base CX0 4 (He.ga K "_law_lies") fd ["_law_say_so", "_law_sheet"] (spP (kx K (fnA K)) 2 false F__law_lies) := by
  refine fn_P (lv := 3) (n := 2) (NN := 8) (nw := false) (own := []) (fb := m__law_lies) (k := kx K (fnA K)) (N := N__law_lies) F sc__law_lies rfl rfl (by decide) (fun cdv A outer s H E' M H0 W hr => ?_)
  unfold m__law_lies
  exact (js_cons (js_asg (je_var (i := 0) (show 0 ∉ ([] : List Nat) by decide) rfl (.inl (by kernel_rfl))) (jg_tup rfl rfl (jgs_cons (jg_name (i := 2) (show 2 ∉ ([] : List Nat) by decide) (free_P rfl) sc__law_lies.nd rfl (.inl (by kernel_rfl)) (.inl rfl)) (jgs_cons (jg_name (i := 3) (show 3 ∉ ([] : List Nat) by decide) (free_P rfl) sc__law_lies.nd rfl (.inl (by kernel_rfl)) (.inl rfl)) (jgs_cons (jg_name (i := 4) (show 4 ∉ ([] : List Nat) by decide) (free_P rfl) sc__law_lies.nd rfl (.inl (by kernel_rfl)) (.inl rfl)) (jgs_cons (jg_name (i := 5) (show 5 ∉ ([] : List Nat) by decide) (free_P rfl) sc__law_lies.nd rfl (.inl (by kernel_rfl)) (.inl rfl)) jgs_nil))))) (tupG_nx (consG_nx (nmG_nx 2) (consG_nx (nmG_nx 3) (consG_nx (nmG_nx 4) (consG_nx (nmG_nx 5) nilG_nx))))))
  (js_cons (js_if (PW.pt (jw_or (jt_cmp (op_neT0 hr.units) opd_neT0 neT0_nx (by rfl) (jc_call (h__law_fault_0 E) hr (show 3 ≤ 3 by decide) rfl E.gf__law_fault (fun _ _ => rfl) rfl (consA_len nilA_len) (ja_cons (je_var (i := 3) (show 3 ∉ ([] : List Nat) by decide) rfl (.inl (by kernel_rfl))) ja_nil)) (je_tup ja_nil)) (jw_or (jt_not (jt_tru rfl (jc_call (h__law_whole_0 E) hr (show 1 ≤ 3 by decide) rfl E.gf__law_whole (fun _ _ => rfl) rfl (consA_len nilA_len) (ja_cons (je_var (i := 4) (show 4 ∉ ([] : List Nat) by decide) rfl (.inl (by kernel_rfl))) ja_nil)))) (jw_or (jt_not (jt_tru rfl (jc_call (h__law_whole_0 E) hr (show 1 ≤ 3 by decide) rfl E.gf__law_whole (fun _ _ => rfl) rfl (consA_len nilA_len) (ja_cons (je_var (i := 5) (show 5 ∉ ([] : List Nat) by decide) rfl (.inl (by kernel_rfl))) ja_nil)))) (jw_or1 (jt_not (jt_tru rfl (je_isi isiTup rfl rfl E.fr_isinstance rfl E.fr_tuple PyProof.Rows.boot_tuple (je_var (i := 1) (show 1 ∉ ([] : List Nat) by decide) rfl (.inl (by kernel_rfl))))))))))) (js_one (js_ret je_bl)) js_nil)
  (js_cons (js_if (PW.pt (jw_or (jt_cmp (Dn.op_neX hr.units) opd_ne neD_nx (by rfl) (je_callB call_lenX cad_len lenD_nx rfl E.fr_len PySem.boot_len (ja_cons (je_var (i := 1) (show 1 ∉ ([] : List Nat) by decide) rfl (.inl (by kernel_rfl))) ja_nil)) je_int) (jw_or1 (jt_not (jt_tru rfl (je_callB (cr_all rfl) cad_all allD_nx rfl E.fr_all PyProof.Rows.boot_all (ja_cons (je_of (jf_lc (own := [("_law_one", 7)]) rfl sc__law_lies.nd (okv_P rfl (show ∀ v ∈ ([7] : List Nat), v ∉ ([] : List Nat) by decide)) (ji_seq rfl (je_var (i := 1) (show 1 ∉ ([] : List Nat) by decide) rfl (.inl (by kernel_rfl)))) (blkOk_by (own := [("_law_one", 7)]) (N := N__law_lies) (sc := defScope s__law_lies) (by decide +kernel)) (fun _ _ _ _ _ _ => (jv_name (i := 7) (by decide) (show 7 ∉ ([] : List Nat) by decide) (free_P rfl) sc__law_lies.nd rfl (.inl (by kernel_rfl)) (.inr (by kernel_rfl)))) (fun _ _ _ _ _ _ => jts_nil) (fun _ _ _ _ _ _ => (jc_call (h__law_whole_0 E) hr (show 1 ≤ 3 by decide) rfl E.gf__law_whole (fun _ _ => rfl) rfl (consA_len nilA_len) (ja_cons (je_var (i := 7) (show 7 ∉ ([] : List Nat) by decide) rfl (.inl (by kernel_rfl))) ja_nil))))) ja_nil))))))) (js_one (js_ret je_bl)) js_nil)
  (js_cons (js_if (jt_cmp op_ge opd_ge geD_nx (by rfl) (je_ix rfl (fun _ _ => rfl) (je_var (i := 1) (show 1 ∉ ([] : List Nat) by decide) rfl (.inl (by kernel_rfl))) je_int) (je_callB call_lenX cad_len lenD_nx rfl E.fr_len PySem.boot_len (ja_cons (je_var (i := 3) (show 3 ∉ ([] : List Nat) by decide) rfl (.inl (by kernel_rfl))) ja_nil))) (js_one (js_ret je_bl)) js_nil)
  (js_cons (js_set (i := 6) (show 6 ∉ ([] : List Nat) by decide) (free_P rfl) sc__law_lies.nd rfl (.inl (by kernel_rfl)) (.inl rfl) (je_ix rfl (fun _ _ => rfl) (je_var (i := 3) (show 3 ∉ ([] : List Nat) by decide) rfl (.inl (by kernel_rfl))) (je_ix rfl (fun _ _ => rfl) (je_var (i := 1) (show 1 ∉ ([] : List Nat) by decide) rfl (.inl (by kernel_rfl))) je_int)))
  (js_cons (js_if (PW.pt (jw_and (jt_cmp (Dn.op_eqX hr.units) opd_eq eqD_nx (by rfl) (je_ix rfl (fun _ _ => rfl) (je_var (i := 6) (show 6 ∉ ([] : List Nat) by decide) rfl (.inl (by kernel_rfl))) je_int) je_int) (jw_and1 (jt_cmp op_gt opd_gt gtD_nx (by rfl) (je_ix rfl (fun _ _ => rfl) (je_var (i := 1) (show 1 ∉ ([] : List Nat) by decide) rfl (.inl (by kernel_rfl))) je_int) je_int)))) (js_one (js_ret je_bl)) js_nil)
  (js_one (js_ret (je_and (je_cmp (Dn.op_eqX hr.units) opd_eq eqD_nx (by rfl) (je_op Dn.op_addX opd_add addD_nx (je_ix rfl (fun _ _ => rfl) (je_var (i := 6) (show 6 ∉ ([] : List Nat) by decide) rfl (.inl (by kernel_rfl))) je_int) (je_op Dn.op_mulX opd_mul mulD_nx (je_ix rfl (fun _ _ => rfl) (je_var (i := 6) (show 6 ∉ ([] : List Nat) by decide) rfl (.inl (by kernel_rfl))) je_int) (je_ix rfl (fun _ _ => rfl) (je_var (i := 1) (show 1 ∉ ([] : List Nat) by decide) rfl (.inl (by kernel_rfl))) je_int))) (je_var (i := 4) (show 4 ∉ ([] : List Nat) by decide) rfl (.inl (by kernel_rfl)))) (je_one (je_cmp (Dn.op_eqX hr.units) opd_eq eqD_nx (by rfl) (je_op Dn.op_addX opd_add addD_nx (je_ix rfl (fun _ _ => rfl) (je_var (i := 6) (show 6 ∉ ([] : List Nat) by decide) rfl (.inl (by kernel_rfl))) je_int) (je_op Dn.op_mulX opd_mul mulD_nx (je_ix rfl (fun _ _ => rfl) (je_var (i := 6) (show 6 ∉ ([] : List Nat) by decide) rfl (.inl (by kernel_rfl))) je_int) (je_ix rfl (fun _ _ => rfl) (je_var (i := 1) (show 1 ∉ ([] : List Nat) by decide) rfl (.inl (by kernel_rfl))) je_int))) (je_var (i := 5) (show 5 ∉ ([] : List Nat) by decide) rfl (.inl (by kernel_rfl))))))))))))))
theorem h__law_lies_0 (E : MG w K mg) : HeldD P w K mg base 4 (He.ga K "_law_lies") (spP (kx K (fnA K)) 2 false F__law_lies) [] := by
  obtain ⟨fd, F0⟩ := E.fd__law_lies
  exact held_N F0 (fo__law_lies E F0) (b__law_lies F0)
theorem b__law_free {fd : FuncData} (F : FunD K "_law_free" "_law_free" (defArgs s__law_free) (defBody s__law_free) (defScope s__law_free) [] [] (He.ga K "_law_free") fd) : L2.Binds K fd ["_law_say_so", "_law_sheet"] [] := F.bindsN fun _ _ _ _ _ _ us hl => match us, hl with | [_, _], _ => rfl
theorem fo__law_free (E : MG w K mg) {fd : FuncData} (F : FunD K "_law_free" "_law_free" (defArgs s__law_free) (defBody s__law_free) (defScope s__law_free) [] [] (He.ga K "_law_free") fd) : FnOk P w K mg base CX0 4 (He.ga K "_law_free") fd ["_law_say_so", "_law_sheet"] (spP (kx K (fnA K)) 2 false F__law_free) := by
  refine fn_P (lv := 3) (n := 2) (NN := 6) (nw := false) (own := []) (fb := m__law_free) (k := kx K (fnA K)) (N := N__law_free) F sc__law_free rfl rfl (by decide) (fun cdv A outer s H E' M H0 W hr => ?_)
  unfold m__law_free
  exact (js_cons (js_asg (je_var (i := 0) (show 0 ∉ ([] : List Nat) by decide) rfl (.inl (by kernel_rfl))) (jg_tup rfl rfl (jgs_cons (jg_name (i := 2) (show 2 ∉ ([] : List Nat) by decide) (free_P rfl) sc__law_free.nd rfl (.inl (by kernel_rfl)) (.inl rfl)) (jgs_cons (jg_name (i := 3) (show 3 ∉ ([] : List Nat) by decide) (free_P rfl) sc__law_free.nd rfl (.inr (by kernel_rfl)) (.inl rfl)) (jgs_cons (jg_name (i := 4) (show 4 ∉ ([] : List Nat) by decide) (free_P rfl) sc__law_free.nd rfl (.inr (by kernel_rfl)) (.inl rfl)) jgs_nil)))) (tupG_nx (consG_nx (nmG_nx 2) (consG_nx (nmG_nx 3) (consG_nx (nmG_nx 4) nilG_nx)))))
  (js_cons (js_if (PW.pt (jw_or (jt_cmp (op_neT0 hr.units) opd_neT0 neT0_nx (by rfl) (jc_call (h__law_fault_0 E) hr (show 3 ≤ 3 by decide) rfl E.gf__law_fault (fun _ _ => rfl) rfl (consA_len nilA_len) (ja_cons (je_var (i := 3) (show 3 ∉ ([] : List Nat) by decide) rfl (.inr (.inl (by kernel_rfl)))) ja_nil)) (je_tup ja_nil)) (jw_or (jt_not (jt_tru rfl (jc_call (h__law_whole_0 E) hr (show 1 ≤ 3 by decide) rfl E.gf__law_whole (fun _ _ => rfl) rfl (consA_len nilA_len) (ja_cons (je_var (i := 4) (show 4 ∉ ([] : List Nat) by decide) rfl (.inr (.inl (by kernel_rfl)))) ja_nil)))) (jw_or (jt_not (jt_tru rfl (je_isi isiTup rfl rfl E.fr_isinstance rfl E.fr_tuple PyProof.Rows.boot_tuple (je_var (i := 1) (show 1 ∉ ([] : List Nat) by decide) rfl (.inr (.inl (by kernel_rfl))))))) (jw_or1 (jt_cmp (Dn.op_neX hr.units) opd_ne neD_nx (by rfl) (je_callB call_lenX cad_len lenD_nx rfl E.fr_len PySem.boot_len (ja_cons (je_var (i := 1) (show 1 ∉ ([] : List Nat) by decide) rfl (.inr (.inl (by kernel_rfl)))) ja_nil)) (je_callB call_lenX cad_len lenD_nx rfl E.fr_len PySem.boot_len (ja_cons (je_var (i := 3) (show 3 ∉ ([] : List Nat) by decide) rfl (.inr (.inl (by kernel_rfl)))) ja_nil)))))))) (js_one (js_ret je_bl)) js_nil)
  (js_one (js_ret (je_callB (cr_all rfl) cad_all allD_nx rfl E.fr_all PyProof.Rows.boot_all (ja_cons (je_of (jf_lc (own := [("_law_k", 5)]) rfl sc__law_free.nd (okv_P rfl (show ∀ v ∈ ([5] : List Nat), v ∉ ([] : List Nat) by decide)) (ji_rng1 rfl E.fr_range (ja_cons (je_callB call_lenX cad_len lenD_nx rfl E.fr_len PySem.boot_len (ja_cons (je_var (i := 3) (show 3 ∉ ([] : List Nat) by decide) rfl (.inr (.inl (by kernel_rfl)))) ja_nil)) ja_nil)) (blkOk_by (own := [("_law_k", 5)]) (N := N__law_free) (sc := defScope s__law_free) (by decide +kernel)) (fun _ _ _ _ _ _ => (jv_name (i := 5) (by decide) (show 5 ∉ ([] : List Nat) by decide) (free_P rfl) sc__law_free.nd rfl (.inl (by kernel_rfl)) (.inr (by kernel_rfl)))) (fun _ _ _ _ _ _ => jts_nil) (fun _ _ _ _ _ _ => (je_and (je_isi isiStr rfl rfl E.fr_isinstance rfl E.fr_str PyProof.Rows.boot_str (je_ix rfl (fun _ _ => rfl) (je_var (i := 1) (show 1 ∉ ([] : List Nat) by decide) rfl (.inr (.inl (by kernel_rfl)))) (je_var (i := 5) (show 5 ∉ ([] : List Nat) by decide) rfl (.inl (by kernel_rfl))))) (je_one (je_cmp (Dn.op_inX (Room65 hr)) opd_in (memD_nx false) (by rfl) (je_ix rfl (fun _ _ => rfl) (je_var (i := 1) (show 1 ∉ ([] : List Nat) by decide) rfl (.inr (.inl (by kernel_rfl)))) (je_var (i := 5) (show 5 ∉ ([] : List Nat) by decide) rfl (.inl (by kernel_rfl)))) (jc_call (h__law_why_0 E) hr (show 1 ≤ 3 by decide) rfl E.gf__law_why (fun _ _ => rfl) rfl (consA_len (consA_len nilA_len)) (ja_cons (je_ix rfl (fun _ _ => rfl) (je_var (i := 3) (show 3 ∉ ([] : List Nat) by decide) rfl (.inr (.inl (by kernel_rfl)))) (je_var (i := 5) (show 5 ∉ ([] : List Nat) by decide) rfl (.inl (by kernel_rfl)))) (ja_cons (je_var (i := 4) (show 4 ∉ ([] : List Nat) by decide) rfl (.inr (.inl (by kernel_rfl)))) ja_nil))))))))) ja_nil))))))
theorem h__law_free_0 (E : MG w K mg) : HeldD P w K mg base 4 (He.ga K "_law_free") (spP (kx K (fnA K)) 2 false F__law_free) [] := by
  obtain ⟨fd, F0⟩ := E.fd__law_free
  exact held_N F0 (fo__law_free E F0) (b__law_free F0)
theorem b__law_due {fd : FuncData} (F : FunD K "_law_due" "_law_due" (defArgs s__law_due) (defBody s__law_due) (defScope s__law_due) [] [] (He.ga K "_law_due") fd) : L2.Binds K fd ["_law_say_so", "_law_sheet"] [] := F.bindsN fun _ _ _ _ _ _ us hl => match us, hl with | [_, _], _ => rfl
theorem fo__law_due (E : MG w K mg) {fd : FuncData} (F : FunD K "_law_due" "_law_due" (defArgs s__law_due) (defBody s__law_due) (defScope s__law_due) [] [] (He.ga K "_law_due") fd) : FnOk P w K mg base CX0 5 (He.ga K "_law_due") fd ["_law_say_so", "_law_sheet"] (spP (kx K (fnA K)) 2 false F__law_due) := by
  refine fn_P (lv := 4) (n := 2) (NN := 2) (nw := false) (own := []) (fb := m__law_due) (k := kx K (fnA K)) (N := N__law_due) F sc__law_due rfl rfl (by decide) (fun cdv A outer s H E' M H0 W hr => ?_)
  unfold m__law_due
  exact (js_one (js_ret (je_if (jt_cmp (Dn.op_eqX hr.units) opd_eq eqD_nx (by rfl) (je_ix rfl (fun _ _ => rfl) (je_var (i := 0) (show 0 ∉ ([] : List Nat) by decide) rfl (.inl (by kernel_rfl))) je_int) je_str) (jc_call (h__law_lies_0 E) hr (show 4 ≤ 4 by decide) rfl E.gf__law_lies (fun _ _ => rfl) rfl (consA_len (consA_len nilA_len)) (ja_cons (je_var (i := 0) (show 0 ∉ ([] : List Nat) by decide) rfl (.inl (by kernel_rfl))) (ja_cons (je_var (i := 1) (show 1 ∉ ([] : List Nat) by decide) rfl (.inl (by kernel_rfl))) ja_nil))) (jc_call (h__law_free_0 E) hr (show 4 ≤ 4 by decide) rfl E.gf__law_free (fun _ _ => rfl) rfl (consA_len (consA_len nilA_len)) (ja_cons (je_var (i := 0) (show 0 ∉ ([] : List Nat) by decide) rfl (.inl (by kernel_rfl))) (ja_cons (je_var (i := 1) (show 1 ∉ ([] : List Nat) by decide) rfl (.inl (by kernel_rfl))) ja_nil))))))
theorem h__law_due_0 (E : MG w K mg) : HeldD P w K mg base 5 (He.ga K "_law_due") (spP (kx K (fnA K)) 2 false F__law_due) [] := by
  obtain ⟨fd, F0⟩ := E.fd__law_due
  exact held_N F0 (fo__law_due E F0) (b__law_due F0)
theorem b__law_right {fd : FuncData} (F : FunD K "_law_right" "_law_right" (defArgs s__law_right) (defBody s__law_right) (defScope s__law_right) [] [] (He.ga K "_law_right") fd) : L2.Binds K fd ["_law_purse_here"] [] := F.bindsN fun _ _ _ _ _ _ us hl => match us, hl with | [_], _ => rfl
theorem fo__law_right (E : MG w K mg) {fd : FuncData} (F : FunD K "_law_right" "_law_right" (defArgs s__law_right) (defBody s__law_right) (defScope s__law_right) [] [] (He.ga K "_law_right") fd) : FnOk P w K mg base CX0 17 (He.ga K "_law_right") fd ["_law_purse_here"] (spI (kx K (fnA K)) 1 false F__law_right) := by
  refine fn_I (lv := 16) (n := 1) (NN := 6) (nw := false) (own := [0]) (fb := m__law_right) (k := kx K (fnA K)) (N := N__law_right) F sc__law_right rfl rfl (by decide) (by decide) (by decide) (fun cdv A outer s H E' M H0 a hr => ?_)
  unfold m__law_right
  exact (js_cons (js_set (i := 1) (show 1 ∉ ([0] : List Nat) by decide) (free_I (show 0 ∈ ([0] : List Nat) by decide) (show (1 : Nat) ≠ 0 by decide)) sc__law_right.nd rfl (.inl (by kernel_rfl)) (.inl rfl) (jc_callI (i := 0) rfl (h__law_laying_0 E) hr (show 3 ≤ 16 by decide) rfl E.gf__law_laying rfl (consA_len nilA_len) (show 0 ∈ ([0] : List Nat) by decide) rfl (.inl (by kernel_rfl)) (ja_cons je_bl ja_nil)))
  (js_cons (js_for (tupG_nx (consG_nx (nmG_nx 2) (consG_nx (nmG_nx 3) nilG_nx))) PassesOwn.never rfl (ji_seq rfl (jc_callI (i := 0) rfl (h__law_claims_0 E) hr (show 2 ≤ 16 by decide) rfl E.gf__law_claims rfl (consA_len nilA_len) (show 0 ∈ ([0] : List Nat) by decide) rfl (.inl (by kernel_rfl)) (ja_cons (je_var (i := 1) (show 1 ∉ ([0] : List Nat) by decide) rfl (.inl (by kernel_rfl))) ja_nil))) (jg_tup rfl rfl (jgs_cons (jg_name (i := 2) (show 2 ∉ ([0] : List Nat) by decide) (free_I (show 0 ∈ ([0] : List Nat) by decide) (show (2 : Nat) ≠ 0 by decide)) sc__law_right.nd rfl (.inl (by kernel_rfl)) (.inl rfl)) (jgs_cons (jg_name (i := 3) (show 3 ∉ ([0] : List Nat) by decide) (free_I (show 0 ∈ ([0] : List Nat) by decide) (show (3 : Nat) ≠ 0 by decide)) sc__law_right.nd rfl (.inl (by kernel_rfl)) (.inl rfl)) jgs_nil)))
  (js_cons (js_if (jt_not (jt_tru rfl (jc_call (h__law_taken_0 E) hr (show 8 ≤ 16 by decide) rfl E.gf__law_taken (fun _ _ => rfl) rfl (consA_len (consA_len (consA_len nilA_len))) (ja_cons (je_var (i := 2) (show 2 ∉ ([0] : List Nat) by decide) rfl (.inl (by kernel_rfl))) (ja_cons (je_var (i := 3) (show 3 ∉ ([0] : List Nat) by decide) rfl (.inl (by kernel_rfl))) (ja_cons (jc_call (h__law_due_0 E) hr (show 5 ≤ 16 by decide) rfl E.gf__law_due (fun _ _ => rfl) rfl (consA_len (consA_len nilA_len)) (ja_cons (je_var (i := 2) (show 2 ∉ ([0] : List Nat) by decide) rfl (.inl (by kernel_rfl))) (ja_cons (je_var (i := 3) (show 3 ∉ ([0] : List Nat) by decide) rfl (.inl (by kernel_rfl))) ja_nil))) ja_nil)))))) (js_one (js_ret je_bl)) js_nil)
  (js_cons (js_asg (jc_callI (i := 0) rfl (h__law_spoilt_0 E) hr (show 16 ≤ 16 by decide) rfl E.gf__law_spoilt rfl (consA_len (consA_len nilA_len)) (show 0 ∈ ([0] : List Nat) by decide) rfl (.inl (by kernel_rfl)) (ja_cons (je_var (i := 2) (show 2 ∉ ([0] : List Nat) by decide) rfl (.inl (by kernel_rfl))) (ja_cons (je_var (i := 3) (show 3 ∉ ([0] : List Nat) by decide) rfl (.inl (by kernel_rfl))) ja_nil))) (jg_tup rfl rfl (jgs_cons (jg_name (i := 4) (show 4 ∉ ([0] : List Nat) by decide) (free_I (show 0 ∈ ([0] : List Nat) by decide) (show (4 : Nat) ≠ 0 by decide)) sc__law_right.nd rfl (.inl (by kernel_rfl)) (.inl rfl)) (jgs_cons (jg_name (i := 5) (show 5 ∉ ([0] : List Nat) by decide) (free_I (show 0 ∈ ([0] : List Nat) by decide) (show (5 : Nat) ≠ 0 by decide)) sc__law_right.nd rfl (.inl (by kernel_rfl)) (.inl rfl)) jgs_nil))) (tupG_nx (consG_nx (nmG_nx 4) (consG_nx (nmG_nx 5) nilG_nx))))
  (js_one (js_if (jt_not (jt_tru rfl (jc_call (h__law_taken_0 E) hr (show 8 ≤ 16 by decide) rfl E.gf__law_taken (fun _ _ => rfl) rfl (consA_len (consA_len (consA_len nilA_len))) (ja_cons (je_var (i := 4) (show 4 ∉ ([0] : List Nat) by decide) rfl (.inl (by kernel_rfl))) (ja_cons (je_var (i := 5) (show 5 ∉ ([0] : List Nat) by decide) rfl (.inl (by kernel_rfl))) (ja_cons (jc_call (h__law_due_0 E) hr (show 5 ≤ 16 by decide) rfl E.gf__law_due (fun _ _ => rfl) rfl (consA_len (consA_len nilA_len)) (ja_cons (je_var (i := 4) (show 4 ∉ ([0] : List Nat) by decide) rfl (.inl (by kernel_rfl))) (ja_cons (je_var (i := 5) (show 5 ∉ ([0] : List Nat) by decide) rfl (.inl (by kernel_rfl))) ja_nil))) ja_nil)))))) (js_one (js_ret je_bl)) js_nil)))))
  (js_one (js_ret (je_and (je_cmp op_isBl opd_isB isB_nx (by rfl) (jc_call (h_holds_0 E) hr (show 7 ≤ 16 by decide) rfl E.gf_holds (fun _ _ => rfl) rfl (consA_len (consA_len nilA_len)) (ja_cons (je_tup (ja_cons je_str (ja_cons (je_tup ja_nil) (ja_cons (je_op op_pow opd_pow powD_nx je_int je_int) ja_nil)))) (ja_cons (je_tup ja_nil) ja_nil))) je_bl) (je_one (je_cmp op_isBl opd_isB isB_nx (by rfl) (jc_call (h_holds_0 E) hr (show 7 ≤ 16 by decide) rfl E.gf_holds (fun _ _ => rfl) rfl (consA_len (consA_len nilA_len)) (ja_cons (je_tup (ja_cons je_str (ja_cons (je_tup ja_nil) (ja_cons je_int ja_nil)))) (ja_cons je_non ja_nil))) je_bl)))))))
theorem h__law_right_0 (E : MG w K mg) : HeldD P w K mg base 17 (He.ga K "_law_right") (spI (kx K (fnA K)) 1 false F__law_right) [] := by
  obtain ⟨fd, F0⟩ := E.fd__law_right
  exact held_N F0 (fo__law_right E F0) (b__law_right F0)
theorem b__law_purse {fd : FuncData} (F : FunD K "_law_purse" "_law_purse" (defArgs s__law_purse) (defBody s__law_purse) (defScope s__law_purse) [] [] (He.ga K "_law_purse") fd) : L2.Binds K fd ["_law_cell_here"] [] := F.bindsN fun _ _ _ _ _ _ us hl => match us, hl with | [_], _ => rfl
theorem fo__law_purse (E : MG w K mg) {fd : FuncData} (F : FunD K "_law_purse" "_law_purse" (defArgs s__law_purse) (defBody s__law_purse) (defScope s__law_purse) [] [] (He.ga K "_law_purse") fd) : FnOk P w K mg base CX0 1 (He.ga K "_law_purse") fd ["_law_cell_here"] (spP (kx K (fnA K)) 1 true F__law_purse) := by
  refine fn_P (lv := 0) (n := 1) (NN := 2) (nw := true) (own := []) (fb := m__law_purse) (k := kx K (fnA K)) (N := N__law_purse) F sc__law_purse rfl rfl (by decide) (fun cdv A outer s H E' M H0 W hr => ?_)
  unfold m__law_purse
  exact (js_cons (js_set (i := 1) (show 1 ∉ ([] : List Nat) by decide) (free_P rfl) sc__law_purse.nd rfl (.inl (by kernel_rfl)) (.inl rfl) je_int)
  (js_cons (js_if (PW.pt (jw_or (jt_cmp op_lt opd_lt ltD_nx (by rfl) (je_var (i := 0) (show 0 ∉ ([] : List Nat) by decide) rfl (.inl (by kernel_rfl))) je_int) (jw_or1 (jt_cmp op_ge opd_ge geD_nx (by rfl) (je_var (i := 0) (show 0 ∉ ([] : List Nat) by decide) rfl (.inl (by kernel_rfl))) (je_op op_pow opd_pow powD_nx je_int je_int))))) (js_one (js_set (i := 1) (show 1 ∉ ([] : List Nat) by decide) (free_P rfl) sc__law_purse.nd rfl (.inl (by kernel_rfl)) (.inl rfl) (je_callB call_abs cad_abs absD_nx rfl E.fr_abs PyProof.Rows.boot_abs (ja_cons (je_var (i := 0) (show 0 ∉ ([] : List Nat) by decide) rfl (.inl (by kernel_rfl))) ja_nil)))) js_nil)
  (js_one (js_retF (jf_lst (ja_cons (je_op op_modN opd_mod modD_nx (je_var (i := 0) (show 0 ∉ ([] : List Nat) by decide) rfl (.inl (by kernel_rfl))) je_int) (ja_cons (je_var (i := 1) (show 1 ∉ ([] : List Nat) by decide) rfl (.inl (by kernel_rfl))) (ja_cons je_int ja_nil))))))))
theorem h__law_purse_0 (E : MG w K mg) : HeldD P w K mg base 1 (He.ga K "_law_purse") (spP (kx K (fnA K)) 1 true F__law_purse) [] := by
  obtain ⟨fd, F0⟩ := E.fd__law_purse
  exact held_N F0 (fo__law_purse E F0) (b__law_purse F0)
theorem b__law_cell {fd : FuncData} (F : FunD K "_law_cell" "_law_cell" (defArgs s__law_cell) (defBody s__law_cell) (defScope s__law_cell) [] [] (He.ga K "_law_cell") fd) : L2.Binds K fd ["_law_script", "_law_k"] [] := F.bindsN fun _ _ _ _ _ _ us hl => match us, hl with | [_, _], _ => rfl
theorem fo__law_cell (E : MG w K mg) {fd : FuncData} (F : FunD K "_law_cell" "_law_cell" (defArgs s__law_cell) (defBody s__law_cell) (defScope s__law_cell) [] [] (He.ga K "_law_cell") fd) : FnOk P w K mg base CX0 1 (He.ga K "_law_cell") fd ["_law_script", "_law_k"] (spP (kx K (fnA K)) 2 false F__law_cell) := by
  refine fn_P (lv := 0) (n := 2) (NN := 4) (nw := false) (own := []) (fb := m__law_cell) (k := kx K (fnA K)) (N := N__law_cell) F sc__law_cell rfl rfl (by decide) (fun cdv A outer s H E' M H0 W hr => ?_)
  unfold m__law_cell
  exact (js_cons (js_if (jt_cmp op_lt opd_lt ltD_nx (by rfl) (je_var (i := 1) (show 1 ∉ ([] : List Nat) by decide) rfl (.inl (by kernel_rfl))) (je_callB call_lenX cad_len lenD_nx rfl E.fr_len PySem.boot_len (ja_cons (je_var (i := 0) (show 0 ∉ ([] : List Nat) by decide) rfl (.inl (by kernel_rfl))) ja_nil))) (js_one (js_ret (je_ix rfl (fun _ _ => rfl) (je_var (i := 0) (show 0 ∉ ([] : List Nat) by decide) rfl (.inl (by kernel_rfl))) (je_var (i := 1) (show 1 ∉ ([] : List Nat) by decide) rfl (.inl (by kernel_rfl)))))) js_nil)
  (js_cons (js_set (i := 2) (show 2 ∉ ([] : List Nat) by decide) (free_P rfl) sc__law_cell.nd rfl (.inl (by kernel_rfl)) (.inl rfl) (je_op op_modN opd_mod modD_nx (je_op Dn.op_mulX opd_mul mulD_nx je_int (je_op Dn.op_addX opd_add addD_nx (je_op Dn.op_addX opd_add addD_nx (je_op Dn.op_mulX opd_mul mulD_nx (je_var (i := 1) (show 1 ∉ ([] : List Nat) by decide) rfl (.inl (by kernel_rfl))) (je_var (i := 1) (show 1 ∉ ([] : List Nat) by decide) rfl (.inl (by kernel_rfl)))) (je_op Dn.op_mulX opd_mul mulD_nx je_int (je_var (i := 1) (show 1 ∉ ([] : List Nat) by decide) rfl (.inl (by kernel_rfl))))) je_int)) je_int))
  (js_cons (js_for (nmG_nx 3) PassesOwn.never rfl (ji_seq rfl (je_sli rfl (je_var (i := 0) (show 0 ∉ ([] : List Nat) by decide) rfl (.inl (by kernel_rfl))) jo_none (jo_some je_int))) (jg_name (i := 3) (show 3 ∉ ([] : List Nat) by decide) (free_P rfl) sc__law_cell.nd rfl (.inl (by kernel_rfl)) (.inl rfl))
  (js_one (js_set (i := 2) (show 2 ∉ ([] : List Nat) by decide) (free_P rfl) sc__law_cell.nd rfl (.inl (by kernel_rfl)) (.inl rfl) (je_op op_modN opd_mod modD_nx (je_op Dn.op_addX opd_add addD_nx (je_op Dn.op_mulX opd_mul mulD_nx (je_var (i := 2) (show 2 ∉ ([] : List Nat) by decide) rfl (.inl (by kernel_rfl))) je_int) (je_var (i := 3) (show 3 ∉ ([] : List Nat) by decide) rfl (.inl (by kernel_rfl)))) je_int))))
  (js_one (js_ret (je_var (i := 2) (show 2 ∉ ([] : List Nat) by decide) rfl (.inl (by kernel_rfl))))))))
theorem h__law_cell_0 (E : MG w K mg) : HeldD P w K mg base 1 (He.ga K "_law_cell") (spP (kx K (fnA K)) 2 false F__law_cell) [] := by
  obtain ⟨fd, F0⟩ := E.fd__law_cell
  exact held_N F0 (fo__law_cell E F0) (b__law_cell F0)
theorem b_law {fd : FuncData} (F : FunD K "law" "law" (defArgs s_law) (defBody s_law) (defScope s_law) [] [] (He.ga K "law") fd) : L2.Binds K fd ["_law_script"] [] := F.bindsN fun _ _ _ _ _ _ us hl => match us, hl with | [_], _ => rfl
theorem fo_law (E : MG w K mg) {fd : FuncData} (F : FunD K "law" "law" (defArgs s_law) (defBody s_law) (defScope s_law) [] [] (He.ga K "law") fd) : FnOk P w K mg base CX0 18 (He.ga K "law") fd ["_law_script"] (spP (kx K (fnA K)) 1 false F_law) := by
  refine fn_P (lv := 17) (n := 1) (NN := 2) (nw := false) (own := []) (fb := m_law) (k := kx K (fnA K)) (N := N_law) F sc_law rfl rfl (by decide) (fun cdv A outer s H E' M H0 W hr => ?_)
  unfold m_law
  exact (js_cons (js_if (jt_not (jt_tru rfl (jc_call0 (h__law_by_hand_0 E) hr (show 9 ≤ 17 by decide) rfl E.gf__law_by_hand (fun _ _ => rfl) rfl))) (js_one (js_ret je_bl)) js_nil)
  (js_one (js_ret (je_callB (cr_all rfl) cad_all allD_nx rfl E.fr_all PyProof.Rows.boot_all (ja_cons (je_of (jf_lc (own := [("_law_k", 1)]) rfl sc_law.nd (okv_P rfl (show ∀ v ∈ ([1] : List Nat), v ∉ ([] : List Nat) by decide)) (ji_rng1 rfl E.fr_range (ja_cons (je_callB (call_maxX rfl) cad_max maxD_nx rfl E.fr_max PyProof.Rows.boot_max (ja_cons je_int (ja_cons (je_callB (call_minX rfl) cad_min minD_nx rfl E.fr_min PyProof.Rows.boot_min (ja_cons (je_callB call_lenX cad_len lenD_nx rfl E.fr_len PySem.boot_len (ja_cons (je_var (i := 0) (show 0 ∉ ([] : List Nat) by decide) rfl (.inr (.inl (by kernel_rfl)))) ja_nil)) (ja_cons je_int ja_nil))) ja_nil))) ja_nil)) (blkOk_by (own := [("_law_k", 1)]) (N := N_law) (sc := defScope s_law) (by decide +kernel)) (fun _ _ _ _ _ _ => (jv_name (i := 1) (by decide) (show 1 ∉ ([] : List Nat) by decide) (free_P rfl) sc_law.nd rfl (.inl (by kernel_rfl)) (.inr (by kernel_rfl)))) (fun _ _ _ _ _ _ => jts_nil) (fun _ _ _ _ _ _ => (jc_callN1 rfl (h__law_right_0 E) hr (show 17 ≤ 17 by decide) rfl E.gf__law_right rfl nilA_len (jc_callF (h__law_purse_0 E) hr (show 1 ≤ 17 by decide) rfl E.gf__law_purse (fun _ _ => rfl) rfl (consA_len nilA_len) (ja_cons (jc_call (h__law_cell_0 E) hr (show 1 ≤ 17 by decide) rfl E.gf__law_cell (fun _ _ => rfl) rfl (consA_len (consA_len nilA_len)) (ja_cons (je_var (i := 0) (show 0 ∉ ([] : List Nat) by decide) rfl (.inr (.inl (by kernel_rfl)))) (ja_cons (je_var (i := 1) (show 1 ∉ ([] : List Nat) by decide) rfl (.inl (by kernel_rfl))) ja_nil))) ja_nil)) (fun _ => ja_nil) )))) ja_nil)))))
end Gk69

set_option maxHeartbeats 0
namespace Gk69
open PySem PySem.Spec PyProof.Rows L2 Dn
def d_divisor : He.DefD := ⟨("divisor", none), "divisor", "divisor", defArgs s_divisor, defBody s_divisor, defScope s_divisor, [], []⟩
def d_common : He.DefD := ⟨("common", none), "common", "common", defArgs s_common, defBody s_common, defScope s_common, [], []⟩
def d_is_count : He.DefD := ⟨("is_count", none), "is_count", "is_count", defArgs s_is_count, defBody s_is_count, defScope s_is_count, [.int 0, .non], []⟩
def d_is_row : He.DefD := ⟨("is_row", none), "is_row", "is_row", defArgs s_is_row, defBody s_is_row, defScope s_is_row, [], []⟩
def d_rows_touch : He.DefD := ⟨("rows_touch", none), "rows_touch", "rows_touch", defArgs s_rows_touch, defBody s_rows_touch, defScope s_rows_touch, [], []⟩
def d_is_laying : He.DefD := ⟨("is_laying", none), "is_laying", "is_laying", defArgs s_is_laying, defBody s_is_laying, defScope s_is_laying, [], []⟩
def d_claim_lies : He.DefD := ⟨("claim_lies", none), "claim_lies", "claim_lies", defArgs s_claim_lies, defBody s_claim_lies, defScope s_claim_lies, [], []⟩
def d_row_misses : He.DefD := ⟨("row_misses", none), "row_misses", "row_misses", defArgs s_row_misses, defBody s_row_misses, defScope s_row_misses, [], []⟩
def d_is_free : He.DefD := ⟨("is_free", none), "is_free", "is_free", defArgs s_is_free, defBody s_is_free, defScope s_is_free, [], []⟩
def d_holds : He.DefD := ⟨("holds", none), "holds", "holds", defArgs s_holds, defBody s_holds, defScope s_holds, [], []⟩
def d__law_taken : He.DefD := ⟨("_law_taken", none), "_law_taken", "_law_taken", defArgs s__law_taken, defBody s__law_taken, defScope s__law_taken, [], []⟩
def d__law_by_hand : He.DefD := ⟨("_law_by_hand", none), "_law_by_hand", "_law_by_hand", defArgs s__law_by_hand, defBody s__law_by_hand, defScope s__law_by_hand, [], []⟩
def d__law_take : He.DefD := ⟨("_law_take", none), "_law_take", "_law_take", defArgs s__law_take, defBody s__law_take, defScope s__law_take, [], []⟩
def d__law_classes : He.DefD := ⟨("_law_classes", none), "_law_classes", "_law_classes", defArgs s__law_classes, defBody s__law_classes, defScope s__law_classes, [], []⟩
def d__law_laying : He.DefD := ⟨("_law_laying", none), "_law_laying", "_law_laying", defArgs s__law_laying, defBody s__law_laying, defScope s__law_laying, [], []⟩
def d__law_why : He.DefD := ⟨("_law_why", none), "_law_why", "_law_why", defArgs s__law_why, defBody s__law_why, defScope s__law_why, [], []⟩
def d__law_claims : He.DefD := ⟨("_law_claims", none), "_law_claims", "_law_claims", defArgs s__law_claims, defBody s__law_claims, defScope s__law_claims, [], []⟩
def d__law_odd : He.DefD := ⟨("_law_odd", none), "_law_odd", "_law_odd", defArgs s__law_odd, defBody s__law_odd, defScope s__law_odd, [], []⟩
def d__law_bent : He.DefD := ⟨("_law_bent", none), "_law_bent", "_law_bent", defArgs s__law_bent, defBody s__law_bent, defScope s__law_bent, [], []⟩
def d__law_spoilt : He.DefD := ⟨("_law_spoilt", none), "_law_spoilt", "_law_spoilt", defArgs s__law_spoilt, defBody s__law_spoilt, defScope s__law_spoilt, [], []⟩
def d__law_whole : He.DefD := ⟨("_law_whole", none), "_law_whole", "_law_whole", defArgs s__law_whole, defBody s__law_whole, defScope s__law_whole, [], []⟩
def d__law_is_row : He.DefD := ⟨("_law_is_row", none), "_law_is_row", "_law_is_row", defArgs s__law_is_row, defBody s__law_is_row, defScope s__law_is_row, [], []⟩
def d__law_shared : He.DefD := ⟨("_law_shared", none), "_law_shared", "_law_shared", defArgs s__law_shared, defBody s__law_shared, defScope s__law_shared, [], []⟩
def d__law_meets : He.DefD := ⟨("_law_meets", none), "_law_meets", "_law_meets", defArgs s__law_meets, defBody s__law_meets, defScope s__law_meets, [], []⟩
def d__law_fault : He.DefD := ⟨("_law_fault", none), "_law_fault", "_law_fault", defArgs s__law_fault, defBody s__law_fault, defScope s__law_fault, [], []⟩
def d__law_lies : He.DefD := ⟨("_law_lies", none), "_law_lies", "_law_lies", defArgs s__law_lies, defBody s__law_lies, defScope s__law_lies, [], []⟩
def d__law_free : He.DefD := ⟨("_law_free", none), "_law_free", "_law_free", defArgs s__law_free, defBody s__law_free, defScope s__law_free, [], []⟩
def d__law_due : He.DefD := ⟨("_law_due", none), "_law_due", "_law_due", defArgs s__law_due, defBody s__law_due, defScope s__law_due, [], []⟩
def d__law_right : He.DefD := ⟨("_law_right", none), "_law_right", "_law_right", defArgs s__law_right, defBody s__law_right, defScope s__law_right, [], []⟩
def d__law_purse : He.DefD := ⟨("_law_purse", none), "_law_purse", "_law_purse", defArgs s__law_purse, defBody s__law_purse, defScope s__law_purse, [], []⟩
def d__law_cell : He.DefD := ⟨("_law_cell", none), "_law_cell", "_law_cell", defArgs s__law_cell, defBody s__law_cell, defScope s__law_cell, [], []⟩
def d_law : He.DefD := ⟨("law", none), "law", "law", defArgs s_law, defBody s_law, defScope s_law, [], []⟩
def fnL : List He.DefD := ([d_divisor, d_common, d_is_count, d_is_row, d_rows_touch, d_is_laying, d_claim_lies, d_row_misses, d_is_free, d_holds, d__law_taken, d__law_by_hand, d__law_take, d__law_classes, d__law_laying, d__law_why, d__law_claims, d__law_odd, d__law_bent, d__law_spoilt, d__law_whole, d__law_is_row, d__law_shared, d__law_meets, d__law_fault, d__law_lies, d__law_free, d__law_due, d__law_right, d__law_purse] : List He.DefD) ++ ([d__law_cell, d_law] : List He.DefD)
def faL : List He.Fa := ([.free "abs", .free "all", .free "any", .free "bool", .free "enumerate", .free "int", .free "isinstance", .free "len", .free "list", .free "max", .free "min", .free "range", .free "str", .free "tuple", .free "zip", .int "MOST_ROWS" 60, .int "MOST_STEP" 240, .glo "_law_bent", .glo "_law_by_hand", .glo "_law_cell", .glo "_law_claims", .glo "_law_classes", .glo "_law_due", .glo "_law_fault", .glo "_law_free", .glo "_law_is_row", .glo "_law_laying", .glo "_law_lies", .glo "_law_meets", .glo "_law_odd"] : List He.Fa) ++ ([.glo "_law_purse", .glo "_law_right", .glo "_law_shared", .glo "_law_spoilt", .glo "_law_take", .glo "_law_taken", .glo "_law_whole", .glo "_law_why", .glo "common", .glo "divisor", .glo "holds", .glo "is_count", .glo "is_laying", .glo "is_row", .glo "law", .glo "row_misses", .glo "rows_touch", .glo "CLAIMS"] : List He.Fa)
def tabL : List He.Tab := [(fun K => He.ga K "CLAIMS", ["lies", "free", "one to one", "two", "frees", "alike", "unlike", "far", "home", "never home", "least share", "ends", "crowded", "never crowded"])]
def exB (K : PySem.W.Frag) : Bool := (tbl_CLAIMS.all (ktOne K (fnA K) (He.ga K "CLAIMS")))
abbrev Rw : PySem.W.OpenRow := PySem.W.OpenLaw.row PySem.Challenge.rw_endlessinn_k69_rooms_judged
abbrev hk : PySem.W.Hook := He.hookX 5 faL fnL tabL [] exB
def ob (s : PySem.W.SharedT) : He.AlX := He.obsX 5 faL fnL tabL [] exB (HandSHeadRun.getT s)
theorem ob_eq (s : PySem.W.SharedT) : ob s = hk.obs s.abs := He.obsX_eq (HandSHeadRun.getT_eq s)
def looseL : List Str := (["MOST_ROWS", "MOST_STEP", "MOST_PARTS", "is_count", "divisor", "common", "rows_touch", "is_row", "is_laying", "room_at", "lead_alike", "is_rule", "lead_on", "is_single", "ways_told", "is_ring", "MOST_CLAUSES", "MOST_START", "MOST_PACE", "is_course", "leads_of", "goal_of", "still_sits", "is_crowd", "over_turns", "bends_of", "lines_of", "crowds_by", "never_crowds", "claim_lies"] : List Str) ++ (["row_misses", "is_free", "one_to_one", "two_met", "frees", "are_alike", "are_unlike", "ring_ways", "is_far", "is_home", "never_home", "least_share", "claim_ends", "is_moment", "claim_crowded", "never_crowded", "CLAIMS", "holds", "_law_cell", "_law_purse", "_law_take", "_law_shared", "_law_classes", "_law_laying", "_law_whole", "_law_is_row", "_law_meets", "_law_fault", "_law_odd", "_law_bent"] : List Str) ++ (["_law_taken", "_law_spoilt", "_law_lies", "_law_free", "_law_why", "_law_due", "_law_claims", "_law_right", "_law_by_hand"] : List Str)
theorem runF (w : World) : HandSHeadRun.RunEq Rw (PySem.W.view Rw.prog [73]) hk ob 20000 looseL (w.withFollow "special-get-raises" false) := by
  intro os
  kernel_rfl
theorem runT (w : World) : HandSHeadRun.RunEq Rw (PySem.W.view Rw.prog [73]) hk ob 20000 looseL (w.withFollow "special-get-raises" true) := by
  intro os
  kernel_rfl
theorem run (w : World) : HandSHeadRun.RunEq Rw (PySem.W.view Rw.prog [73]) hk ob 20000 looseL w := PySem.W.byRow2 "special-get-raises" (P := fun w => HandSHeadRun.RunEq Rw (PySem.W.view Rw.prog [73]) hk ob 20000 looseL w) runF runT w
theorem mg_of {w : World} {K : PySem.W.Frag} {h : Heap} {mg : Str → Option Value} (X : K.In h) (G : h.Ns mainGlobals mg) (c : He.SaysX faL fnL tabL [] exB w h K) : MG w K mg where
  fr_abs := He.free_ok X G (c.t.d.fact 0 (f := .free "abs") rfl)
  fr_all := He.free_ok X G (c.t.d.fact 1 (f := .free "all") rfl)
  fr_any := He.free_ok X G (c.t.d.fact 2 (f := .free "any") rfl)
  fr_bool := He.free_ok X G (c.t.d.fact 3 (f := .free "bool") rfl)
  fr_enumerate := He.free_ok X G (c.t.d.fact 4 (f := .free "enumerate") rfl)
  fr_int := He.free_ok X G (c.t.d.fact 5 (f := .free "int") rfl)
  fr_isinstance := He.free_ok X G (c.t.d.fact 6 (f := .free "isinstance") rfl)
  fr_len := He.free_ok X G (c.t.d.fact 7 (f := .free "len") rfl)
  fr_list := He.free_ok X G (c.t.d.fact 8 (f := .free "list") rfl)
  fr_max := He.free_ok X G (c.t.d.fact 9 (f := .free "max") rfl)
  fr_min := He.free_ok X G (c.t.d.fact 10 (f := .free "min") rfl)
  fr_range := He.free_ok X G (c.t.d.fact 11 (f := .free "range") rfl)
  fr_str := He.free_ok X G (c.t.d.fact 12 (f := .free "str") rfl)
  fr_tuple := He.free_ok X G (c.t.d.fact 13 (f := .free "tuple") rfl)
  fr_zip := He.free_ok X G (c.t.d.fact 14 (f := .free "zip") rfl)
  gi_MOST_ROWS := He.int_ok X G (c.t.d.fact 15 (f := .int "MOST_ROWS" 60) rfl)
  gi_MOST_STEP := He.int_ok X G (c.t.d.fact 16 (f := .int "MOST_STEP" 240) rfl)
  gf__law_bent := He.glo_ok X G (c.t.d.fact 17 (f := .glo "_law_bent") rfl)
  gf__law_by_hand := He.glo_ok X G (c.t.d.fact 18 (f := .glo "_law_by_hand") rfl)
  gf__law_cell := He.glo_ok X G (c.t.d.fact 19 (f := .glo "_law_cell") rfl)
  gf__law_claims := He.glo_ok X G (c.t.d.fact 20 (f := .glo "_law_claims") rfl)
  gf__law_classes := He.glo_ok X G (c.t.d.fact 21 (f := .glo "_law_classes") rfl)
  gf__law_due := He.glo_ok X G (c.t.d.fact 22 (f := .glo "_law_due") rfl)
  gf__law_fault := He.glo_ok X G (c.t.d.fact 23 (f := .glo "_law_fault") rfl)
  gf__law_free := He.glo_ok X G (c.t.d.fact 24 (f := .glo "_law_free") rfl)
  gf__law_is_row := He.glo_ok X G (c.t.d.fact 25 (f := .glo "_law_is_row") rfl)
  gf__law_laying := He.glo_ok X G (c.t.d.fact 26 (f := .glo "_law_laying") rfl)
  gf__law_lies := He.glo_ok X G (c.t.d.fact 27 (f := .glo "_law_lies") rfl)
  gf__law_meets := He.glo_ok X G (c.t.d.fact 28 (f := .glo "_law_meets") rfl)
  gf__law_odd := He.glo_ok X G (c.t.d.fact 29 (f := .glo "_law_odd") rfl)
  gf__law_purse := He.glo_ok X G (c.t.d.fact 30 (f := .glo "_law_purse") rfl)
  gf__law_right := He.glo_ok X G (c.t.d.fact 31 (f := .glo "_law_right") rfl)
  gf__law_shared := He.glo_ok X G (c.t.d.fact 32 (f := .glo "_law_shared") rfl)
  gf__law_spoilt := He.glo_ok X G (c.t.d.fact 33 (f := .glo "_law_spoilt") rfl)
  gf__law_take := He.glo_ok X G (c.t.d.fact 34 (f := .glo "_law_take") rfl)
  gf__law_taken := He.glo_ok X G (c.t.d.fact 35 (f := .glo "_law_taken") rfl)
  gf__law_whole := He.glo_ok X G (c.t.d.fact 36 (f := .glo "_law_whole") rfl)
  gf__law_why := He.glo_ok X G (c.t.d.fact 37 (f := .glo "_law_why") rfl)
  gf_common := He.glo_ok X G (c.t.d.fact 38 (f := .glo "common") rfl)
  gf_divisor := He.glo_ok X G (c.t.d.fact 39 (f := .glo "divisor") rfl)
  gf_holds := He.glo_ok X G (c.t.d.fact 40 (f := .glo "holds") rfl)
  gf_is_count := He.glo_ok X G (c.t.d.fact 41 (f := .glo "is_count") rfl)
  gf_is_laying := He.glo_ok X G (c.t.d.fact 42 (f := .glo "is_laying") rfl)
  gf_is_row := He.glo_ok X G (c.t.d.fact 43 (f := .glo "is_row") rfl)
  gf_law := He.glo_ok X G (c.t.d.fact 44 (f := .glo "law") rfl)
  gf_row_misses := He.glo_ok X G (c.t.d.fact 45 (f := .glo "row_misses") rfl)
  gf_rows_touch := He.glo_ok X G (c.t.d.fact 46 (f := .glo "rows_touch") rfl)
  gt_CLAIMS := He.glo_ok X G (c.t.d.fact 47 (f := .glo "CLAIMS") rfl)
  kt_CLAIMS := kt_of (c.t.tab 0 (t := (fun K => He.ga K "CLAIMS", ["lies", "free", "one to one", "two", "frees", "alike", "unlike", "far", "home", "never home", "least share", "ends", "crowded", "never crowded"])) rfl) c.more
  fd_divisor := c.t.d.def_ 0 (d := d_divisor) rfl
  fd_common := c.t.d.def_ 1 (d := d_common) rfl
  fd_is_count := c.t.d.def_ 2 (d := d_is_count) rfl
  fd_is_row := c.t.d.def_ 3 (d := d_is_row) rfl
  fd_rows_touch := c.t.d.def_ 4 (d := d_rows_touch) rfl
  fd_is_laying := c.t.d.def_ 5 (d := d_is_laying) rfl
  fd_claim_lies := c.t.d.def_ 6 (d := d_claim_lies) rfl
  fd_row_misses := c.t.d.def_ 7 (d := d_row_misses) rfl
  fd_is_free := c.t.d.def_ 8 (d := d_is_free) rfl
  fd_holds := c.t.d.def_ 9 (d := d_holds) rfl
  fd__law_taken := c.t.d.def_ 10 (d := d__law_taken) rfl
  fd__law_by_hand := c.t.d.def_ 11 (d := d__law_by_hand) rfl
  fd__law_take := c.t.d.def_ 12 (d := d__law_take) rfl
  fd__law_classes := c.t.d.def_ 13 (d := d__law_classes) rfl
  fd__law_laying := c.t.d.def_ 14 (d := d__law_laying) rfl
  fd__law_why := c.t.d.def_ 15 (d := d__law_why) rfl
  fd__law_claims := c.t.d.def_ 16 (d := d__law_claims) rfl
  fd__law_odd := c.t.d.def_ 17 (d := d__law_odd) rfl
  fd__law_bent := c.t.d.def_ 18 (d := d__law_bent) rfl
  fd__law_spoilt := c.t.d.def_ 19 (d := d__law_spoilt) rfl
  fd__law_whole := c.t.d.def_ 20 (d := d__law_whole) rfl
  fd__law_is_row := c.t.d.def_ 21 (d := d__law_is_row) rfl
  fd__law_shared := c.t.d.def_ 22 (d := d__law_shared) rfl
  fd__law_meets := c.t.d.def_ 23 (d := d__law_meets) rfl
  fd__law_fault := c.t.d.def_ 24 (d := d__law_fault) rfl
  fd__law_lies := c.t.d.def_ 25 (d := d__law_lies) rfl
  fd__law_free := c.t.d.def_ 26 (d := d__law_free) rfl
  fd__law_due := c.t.d.def_ 27 (d := d__law_due) rfl
  fd__law_right := c.t.d.def_ 28 (d := d__law_right) rfl
  fd__law_purse := c.t.d.def_ 29 (d := d__law_purse) rfl
  fd__law_cell := c.t.d.def_ 30 (d := d__law_cell) rfl
  fd_law := c.t.d.def_ 31 (d := d_law) rfl
end Gk69

namespace Gk69
open PySem PySem.Spec PyProof.Rows L2 Dn
def clean1 : D → Bool
  | .fn _ => false
  | .int i => decide (i.natAbs.log2 < 300000)
  | _ => true
def whole : D → Bool
  | .int i => decide (0 ≤ i)
  | _ => false
theorem is_count_eq (d : D) (h : clean1 d = true) : F_is_count [d, .int 0, .non] = .ok (.bl (whole d)) := by
  cases d <;> simp [F_is_count, m_is_count, s_runB, startL, truR, isiD, isBool, Dn.isInt, vr, geD, isN, whole] <;> simp [clean1] at h
theorem whole_eq (d : D) (h : clean1 d = true) : F__law_whole [d] = .ok (.bl (whole d)) := by
  cases d <;> simp [F__law_whole, m__law_whole, s_runB, startL, truR, isiD, isBool, Dn.isInt, vr, geD, isN, whole] <;> simp [clean1] at h
/-! ### the greatest common divisor -/
theorem whS_one {t : MD Bool} {fb : MS} {n : Nat} {e e1 e2 : Lc} (h1 : t e = .ok (true, e1)) (h2 : fb e1 = .ok (.nx, e2)) : whS t fb (n + 1) e = whS t fb n e2 := by
  conv => lhs; unfold whS
  rw [h1]
  simp only [R.bind_ok]
  rw [h2]
  rfl
theorem whS_end {t : MD Bool} {fb : MS} {n : Nat} {e e1 : Lc} (h1 : t e = .ok (false, e1)) : whS t fb (n + 1) e = .ok (.nx, e1) := by
  conv => lhs; unfold whS
  rw [h1]
  rfl
theorem fmod_nat (a b : Nat) : (a : Int).fmod (b : Int) = ((a % b : Nat) : Int) := by
  rw [Int.fmod_eq_emod_of_nonneg _ (by omega)]
  rfl
theorem gcd_step (a b : Nat) : Nat.gcd b (a % b) = Nat.gcd a b := by rw [Nat.gcd_comm a b, Nat.gcd_rec b a, Nat.gcd_comm]
theorem whS_div (t : MD Bool) (ht : ∀ a b : Nat, t [some (.int a), some (.int b)] = .ok (decide (b ≠ 0), [some (.int a), some (.int b)])) (fb : MS)
    (hb : ∀ a b : Nat, b ≠ 0 → fb [some (.int a), some (.int b)] = .ok (.nx, [some (.int b), some (.int ((a : Int).fmod b))])) : ∀ (m n a b : Nat), b < 2 ^ m → 2 * m + 1 ≤ n → whS t fb n [some (.int a), some (.int b)] = .ok (.nx, [some (.int (Nat.gcd a b)), some (.int 0)])
  | 0, n, a, b, h, hn => by
    obtain ⟨n, rfl⟩ : ∃ k, n = k + 1 := ⟨n - 1, by omega⟩
    have : b = 0 := by simpa using h
    subst this
    rw [whS_end (by rw [ht]; rfl)]
    simp
  | m + 1, n, a, b, h, hn => by
    obtain ⟨n, rfl⟩ : ∃ k, n = k + 2 := ⟨n - 2, by omega⟩
    by_cases hb0 : b = 0
    · subst hb0
      rw [whS_end (by rw [ht]; rfl)]
      simp
    · rw [whS_one (n := n + 1) (by rw [ht, decide_eq_true hb0]) (hb _ _ hb0), fmod_nat]
      by_cases hr : a % b = 0
      · rw [hr, whS_end (by rw [ht]; rfl), ← gcd_step a b, hr]
        simp
      · rw [whS_one (n := n) (by rw [ht, decide_eq_true hr]) (hb _ _ hr), fmod_nat]
        have h1 := Nat.mod_lt a (Nat.pos_of_ne_zero hb0)
        have h2 := Nat.mod_lt b (Nat.pos_of_ne_zero hr)
        have h3 : b % (a % b) < 2 ^ m := by
          have h4 : b % (a % b) + (a % b) ≤ b := by
            have := Nat.div_add_mod b (a % b)
            have h5 : 1 ≤ b / (a % b) := Nat.div_pos (Nat.le_of_lt h1) (Nat.pos_of_ne_zero hr)
            have h6 : a % b ≤ (a % b) * (b / (a % b)) := Nat.le_mul_of_pos_right _ h5
            omega
          rw [Nat.pow_succ] at h
          omega
        rw [whS_div t ht fb hb m n (a % b) (b % (a % b)) h3 (by omega), gcd_step b (a % b), gcd_step a b]
theorem eq0 (b : Nat) : (((b : Nat) : Int) == 0) = decide (b = 0) := by
  by_cases h : b = 0 <;> simp [h]
theorem divisor_eq (a b : Nat) (h : b < 2 ^ 400000) : F_divisor [.int a, .int b] = .ok (.int (Nat.gcd a b)) := by
  have hw := whS_div (tst (bin2 neD (vr 1) (cst (.int 0)))) (fun a b => by simp [vr, neD, scalD, eq0]) (parS 0 1 (vr 1) (bin2 modD (vr 0) (vr 1))) (fun a b hb => by simp [vr, modD, hb]) 400000 1000000 a b h (by decide)
  simp only [F_divisor, m_divisor, s_runB, startL, s_seq, List.map, List.length, Nat.sub_self, List.replicate, List.append_nil]
  rw [hw]
  simp [vr, absD]
  omega
theorem shared_eq (a b : Nat) (h : b < 2 ^ 400000) : F__law_shared [.int a, .int b] = .ok (.int (Nat.gcd a b)) := by
  have hw := whS_div (tst (bin2 gtD (vr 1) (cst (.int 0)))) (fun a b => by
    simp [vr, gtD]
    by_cases h : b = 0
    · simp [h]
    · simp [h]
      omega) (parS 0 1 (vr 1) (bin2 modD (vr 0) (vr 1))) (fun a b hb => by simp [vr, modD, hb]) 400000 1000000 a b h (by decide)
  simp only [F__law_shared, m__law_shared, s_runB, startL, s_seq, List.map, List.length, Nat.sub_self, List.replicate, List.append_nil]
  rw [hw]
  simp [vr]
theorem forS_cons {g : GD} {b : MS} {d : D} {ds : List D} {e e1 e2 : Lc} (h1 : g d e = .ok e1) (h2 : b e1 = .ok (.nx, e2)) : forS g b (d :: ds) e = forS g b ds e2 := by
  conv => lhs; unfold forS
  rw [h1]
  simp only [R.bind_ok]
  rw [h2]
  rfl
theorem log2_le {n k : Nat} (h : n < 2 ^ (k + 1)) : n.log2 ≤ k := by
  by_cases h0 : n = 0
  · subst h0
    simp
  · have := (Nat.log2_lt h0).mpr h
    omega
theorem lcm_step {L n m : Nat} (hL : L < 2 ^ m) (hL1 : 1 ≤ L) (hn : 1 ≤ n) (hn2 : n ≤ 240) (hm : m ≤ 900000) :
    (mulD (.int L) (.int n)).bind (fun x => fdivD x (.int (Nat.gcd L n))) = .ok (.int (Nat.lcm L n)) := by
  have h1 : (L : Nat).log2 ≤ m := by
    refine log2_le (Nat.lt_of_lt_of_le hL (Nat.pow_le_pow_right (by decide) (by omega)))
  have h2 : n.log2 ≤ 7 := log2_le (by omega)
  have hg : 0 < Nat.gcd L n := Nat.gcd_pos_of_pos_left _ hL1
  have hg2 : Nat.gcd L n ≤ 240 := Nat.le_trans (Nat.gcd_le_right _ hn) hn2
  have h3 : (Nat.gcd L n).log2 ≤ 7 := log2_le (by omega)
  have e1 : mulD (.int L) (.int n) = .ok (.int ((L : Int) * n)) := by
    rw [mulD_int, if_pos (by simp only [Int.natAbs_natCast]; omega)]
  rw [e1]
  show fdivD (.int ((L : Int) * n)) (.int (Nat.gcd L n)) = _
  rw [fdivD_int, if_pos (.inl ⟨by omega, by simp only [Int.natAbs_natCast]; omega⟩)]
  rw [Int.fdiv_eq_ediv_of_nonneg _ (by omega)]
  congr 2
theorem common_go (l : D) : ∀ (ns : List Nat) (L m : Nat) (x : Option D), (∀ n ∈ ns, 1 ≤ n ∧ n ≤ 240) → 1 ≤ L → L < 2 ^ m → m + 8 * ns.length ≤ 900000 →
    ∃ x', forS (nmG 2) (setS 1 (bin2 fdivD (bin2 mulD (vr 1) (vr 2)) (calM F_divisor [] (consA (vr 1) (consA (vr 2) nilA))))) (ns.map fun (n : Nat) => D.int n) [some l, some (.int L), x] = .ok (.nx, [some l, some (.int (ns.foldl Nat.lcm L : Nat)), x'])
  | [], L, m, x, _, _, _, _ => ⟨x, rfl⟩
  | n :: ns, L, m, x, hn, h1, h2, h3 => by
    obtain ⟨hn1, hn2⟩ := hn n (List.mem_cons_self ..)
    have hs := lcm_step h2 h1 hn1 hn2 (by omega)
    rw [List.length_cons] at h3
    have hpos : 1 ≤ Nat.lcm L n := Nat.pos_of_ne_zero (Nat.lcm_ne_zero (by omega) (by omega))
    have hle : Nat.lcm L n < 2 ^ (m + 8) := by
      have a1 : Nat.lcm L n ≤ L * n := Nat.div_le_self _ _
      have a2 : L * n < 2 ^ m * 2 ^ 8 := by
        refine Nat.lt_of_le_of_lt (Nat.mul_le_mul_left L hn2) ?_
        refine Nat.lt_of_lt_of_le (Nat.mul_lt_mul_of_pos_right h2 (by decide)) (Nat.mul_le_mul_left _ (by decide))
      rw [Nat.pow_add]
      omega
    obtain ⟨x', hx⟩ := common_go l ns (Nat.lcm L n) (m + 8) (some (.int n)) (fun k hk => hn k (List.mem_cons_of_mem _ hk)) hpos hle (by omega)
    refine ⟨x', ?_⟩
    rw [List.map_cons, List.foldl_cons, ← hx]
    refine forS_cons rfl ?_
    have hd := divisor_eq L n (Nat.lt_of_le_of_lt hn2 (Nat.lt_of_lt_of_le (show 240 < 2 ^ 8 by decide) (Nat.pow_le_pow_right (by decide) (by decide))))
    cases e1 : mulD (.int L) (.int n) with
    | ok d =>
      rw [e1] at hs
      have hs' : fdivD d (.int (Nat.gcd L n)) = .ok (.int (Nat.lcm L n)) := hs
      simp [vr, hd, e1, hs']
    | exc y z => exact absurd e1 (mulD_nx _ _ _ _)
    | bad =>
      rw [e1] at hs
      cases hs
theorem common_eq (ns : List Nat) (h : ∀ n ∈ ns, 1 ≤ n ∧ n ≤ 240) (hl : ns.length ≤ 60) : F_common [.lst (ns.map fun (n : Nat) => D.int n)] = .ok (.int (ns.foldl Nat.lcm 1 : Nat)) := by
  obtain ⟨x', hx⟩ := common_go (.lst (ns.map fun (n : Nat) => D.int n)) ns 1 1 none h (by decide) (by decide) (by omega)
  simp only [F_common, m_common, s_runB, startL, s_seq, s_setS, s_cst, R.bind_ok, seqK_nx, s_forM, s_seqM, List.map, List.length, List.replicate]
  simp [vr]
  have hx' := hx
  simp at hx'
  rw [hx']
  simp [vr]
end Gk69

namespace Gk69
open PySem PySem.Spec PyProof.Rows L2 Dn
def rowOk : D → Bool
  | .tup [.int a, .int b, .int c, .int e] => (decide (0 ≤ a) && (decide (0 ≤ b) && (decide (0 ≤ c) && decide (0 ≤ e)))) && ((decide (0 < b) == decide (0 < e)) && decide (b ≤ 240))
  | _ => false
/-- not a def, its parts neither -/
def clean2 : D → Bool
  | .fn _ => false
  | .tup ds => ds.all clean1 && decide (ds.length ≤ 1000)
  | _ => true
theorem le_size {n : Nat} (h : n ≤ 1000) : n ≤ sizeLine := Nat.le_trans h (by decide)
/-- all([is_count(part) for part in x]) -/
theorem all_count {e : Lc} {i j : Nat} {ds : List D} (hj : e[j]? = some (some (.tup ds))) (hi : i < e.length) (hc : ∀ d ∈ ds, clean1 d = true) (hz : ds.length ≤ 1000) :
    callD allD (consA (asL (lcM [i] (seqM (vr j)) (nmG i) yesT (calM F_is_count [.int 0, .non] (consA (vr i) nilA)))) nilA) e = .ok (.bl (ds.all whole), e) := by
  have h1 := lcM_map (i := i) (e := e) (el := calM F_is_count [.int 0, .non] (consA (vr i) nilA)) (F := seqM (vr j)) (ds := ds) (hh := fun d => .bl (whole d)) (by simp [vr_get _ _ _ hj]) (le_size hz) hi fun d hd => by
    have h2 : vr i (e.set i (some d)) = .ok (d, e.set i (some d)) := vr_get _ _ _ (List.getElem?_set_self hi)
    simp [h2, is_count_eq d (hc d hd)]
  simp only [s_callD, s_consA, s_asL, s_nilA]
  rw [h1]
  simp [allD, blsD_map, List.all_map, Function.comp_def]
theorem all_whole {e : Lc} {i j : Nat} {ds : List D} (hj : e[j]? = some (some (.tup ds))) (hi : i < e.length) (hc : ∀ d ∈ ds, clean1 d = true) (hz : ds.length ≤ 1000) :
    callD allD (consA (asL (lcM [i] (seqM (vr j)) (nmG i) yesT (calM F__law_whole [] (consA (vr i) nilA)))) nilA) e = .ok (.bl (ds.all whole), e) := by
  have h1 := lcM_map (i := i) (e := e) (el := calM F__law_whole [] (consA (vr i) nilA)) (F := seqM (vr j)) (ds := ds) (hh := fun d => .bl (whole d)) (by simp [vr_get _ _ _ hj]) (le_size hz) hi fun d hd => by
    have h2 : vr i (e.set i (some d)) = .ok (d, e.set i (some d)) := vr_get _ _ _ (List.getElem?_set_self hi)
    simp [h2, whole_eq d (hc d hd)]
  simp only [s_callD, s_consA, s_asL, s_nilA]
  rw [h1]
  simp [allD, blsD_map, List.all_map, Function.comp_def]
theorem whole_int {d : D} (h : whole d = true) : ∃ n : Nat, d = .int n := by
  cases d with
  | int i => exact ⟨i.toNat, by
      have := of_decide_eq_true h
      rw [Int.toNat_of_nonneg this]⟩
  | _ => cases h
theorem rowOk_len {ds : List D} (h : ds.length ≠ 4) : rowOk (.tup ds) = false := by
  unfold rowOk
  split
  · rename_i hh
    cases hh
    exact absurd rfl h
  · rfl
theorem rowOk_not {ds : List D} (h : ds.all whole = false) : rowOk (.tup ds) = false := by
  unfold rowOk
  split
  · rename_i a b c e hh
    cases hh
    simp [whole] at h
    cases z : (decide (0 ≤ a) && (decide (0 ≤ b) && (decide (0 ≤ c) && decide (0 ≤ e)))) with
    | false => rfl
    | true =>
      simp at z
      exact absurd (h z.1 z.2.1 z.2.2.1) (by omega)
  · rfl
theorem is_row_eq (d : D) (h : clean2 d = true) : F_is_row [d] = .ok (.bl (rowOk d)) := by
  cases d with
  | tup ds =>
    simp only [clean2, Bool.and_eq_true, List.all_eq_true, decide_eq_true_eq] at h
    have ha := all_count (e := [some (.tup ds), none]) (i := 1) (j := 0) rfl (show 1 < 2 by decide) h.1 h.2
    have hlen : callD lenD (consA (vr 0) nilA) [some (.tup ds), none] = .ok (.int ds.length, [some (.tup ds), none]) := by simp [vr, lenD]
    simp only [F_is_row, m_is_row, s_runB, startL, List.map, List.length, List.replicate, List.cons_append, List.nil_append]
    by_cases h4 : ds.length = 4
    · have hl : ((ds.length : Int) == 4) = true := by rw [h4]; rfl
      cases hw : ds.all whole with
      | false =>
        rw [hw] at ha
        rw [rowOk_not hw]
        simp [-s_callD, ha, hlen, truR, isiD, isTup, vr, neD, scalD, hl]
      | true =>
        rw [hw] at ha
        rw [List.all_eq_true] at hw
        simp [-s_callD, ha, hlen, truR, isiD, isTup, vr, neD, scalD, hl]
        match ds, h4 with
        | [d1, d2, d3, d4], _ =>
          obtain ⟨a, rfl⟩ := whole_int (hw d1 (by simp))
          obtain ⟨b, rfl⟩ := whole_int (hw d2 (by simp))
          obtain ⟨c, rfl⟩ := whole_int (hw d3 (by simp))
          obtain ⟨f, rfl⟩ := whole_int (hw d4 (by simp))
          simp [whole, vr, idxD, atI, gtD, leD, eqD, scalD, rowOk, ixN]
    · have hl : ((ds.length : Int) == 4) = false := by
        simp
        omega
      rw [rowOk_len h4]
      simp [-s_callD, ha, hlen, truR, isiD, isTup, vr, neD, scalD, hl]
  | fn j => cases h
  | _ => simp [F_is_row, m_is_row, s_runB, startL, truR, isiD, isTup, vr, rowOk]
theorem law_is_row_eq (d : D) (h : clean2 d = true) : F__law_is_row [d] = .ok (.bl (rowOk d)) := by
  cases d with
  | tup ds =>
    simp only [clean2, Bool.and_eq_true, List.all_eq_true, decide_eq_true_eq] at h
    have ha := all_whole (e := [some (.tup ds), none]) (i := 1) (j := 0) rfl (show 1 < 2 by decide) h.1 h.2
    have hlen : callD lenD (consA (vr 0) nilA) [some (.tup ds), none] = .ok (.int ds.length, [some (.tup ds), none]) := by simp [vr, lenD]
    simp only [F__law_is_row, m__law_is_row, s_runB, startL, List.map, List.length, List.replicate, List.cons_append, List.nil_append]
    by_cases h4 : ds.length = 4
    · have hl : ((ds.length : Int) == 4) = true := by rw [h4]; rfl
      cases hw : ds.all whole with
      | false =>
        rw [hw] at ha
        rw [rowOk_not hw]
        simp [-s_callD, ha, hlen, truR, isiD, isTup, vr, neD, scalD, hl]
      | true =>
        rw [hw] at ha
        rw [List.all_eq_true] at hw
        simp [-s_callD, ha, hlen, truR, isiD, isTup, vr, neD, scalD, hl]
        match ds, h4 with
        | [d1, d2, d3, d4], _ =>
          obtain ⟨a, rfl⟩ := whole_int (hw d1 (by simp))
          obtain ⟨b, rfl⟩ := whole_int (hw d2 (by simp))
          obtain ⟨c, rfl⟩ := whole_int (hw d3 (by simp))
          obtain ⟨f, rfl⟩ := whole_int (hw d4 (by simp))
          simp [whole, vr, idxD, atI, gtD, leD, eqD, scalD, rowOk, ixN]
          have e1 : decide (0 < b) = !(((b : Nat) : Int) == 0) := by
            by_cases hb : b = 0
            · subst hb; rfl
            · have : decide (0 < b) = true := by simp; omega
              rw [this]
              simp [hb]
          have e2 : decide (0 < f) = !(((f : Nat) : Int) == 0) := by
            by_cases hb : f = 0
            · subst hb; rfl
            · have : decide (0 < f) = true := by simp; omega
              rw [this]
              simp [hb]
          rw [e1, e2, Bool.and_comm]
          cases (((b : Nat) : Int) == 0) <;> cases (((f : Nat) : Int) == 0) <;> rfl
    · have hl : ((ds.length : Int) == 4) = false := by
        simp
        omega
      rw [rowOk_len h4]
      simp [-s_callD, ha, hlen, truR, isiD, isTup, vr, neD, scalD, hl]
  | fn j => cases h
  | _ => simp [F__law_is_row, m__law_is_row, s_runB, startL, truR, isiD, isTup, vr, rowOk]
/-! ### two rows touch -/
def meets (a s b p : Int) : Bool :=
  if s = 0 ∧ p = 0 then a == b
  else if s = 0 then decide (b ≤ a) && ((a - b).fmod p == 0)
  else if p = 0 then decide (a ≤ b) && ((b - a).fmod s == 0)
  else (a - b).fmod (Nat.gcd s.toNat p.toNat : Nat) == 0
theorem touch_eq (a b : Int) (s p : Nat) (hp : p < 2 ^ 400000) : F_rows_touch 2 [.int a, .int s, .int b, .int p] = .ok (.bl (meets a s b p)) := by
  have hd := divisor_eq s p hp
  show runB 4 false (m_rows_touch (F_rows_touch 1)) _ = _
  by_cases h1 : s = 0
  · by_cases h2 : p = 0
    · subst h1 h2
      simp [m_rows_touch, s_runB, startL, vr, eqD, scalD, meets]
    · subst h1
      simp [m_rows_touch, s_runB, startL, vr, eqD, scalD, meets, h2, geD, modD, subD]
  · by_cases h2 : p = 0
    · subst h2
      have key : F_rows_touch 1 [.int b, .int 0, .int a, .int s] = .ok (.bl (decide (a ≤ b) && ((b - a).fmod s == 0))) := by
        show runB 4 false (m_rows_touch (F_rows_touch 0)) _ = _
        simp [m_rows_touch, s_runB, startL, vr, eqD, scalD, h1, geD, modD, subD]
      simp [m_rows_touch, s_runB, startL, vr, eqD, scalD, meets, h1, key]
    · have hg : ((Nat.gcd s p : Nat) : Int) ≠ 0 := by
        have := Nat.gcd_pos_of_pos_left p (Nat.pos_of_ne_zero h1)
        omega
      simp [m_rows_touch, s_runB, startL, vr, eqD, scalD, meets, h1, h2, hd, modD, subD, hg]
theorem law_meets_eq (a b : Int) (s p : Nat) (hp : p < 2 ^ 400000) : F__law_meets [.int a, .int s, .int b, .int p] = .ok (.bl (meets a s b p)) := by
  have hd := shared_eq s p hp
  by_cases h1 : s = 0
  · by_cases h2 : p = 0
    · subst h1 h2
      simp [F__law_meets, m__law_meets, s_runB, startL, vr, eqD, scalD, meets]
    · subst h1
      simp [F__law_meets, m__law_meets, s_runB, startL, vr, eqD, scalD, meets, h2, geD, modD, subD]
  · by_cases h2 : p = 0
    · subst h2
      simp [F__law_meets, m__law_meets, s_runB, startL, vr, eqD, scalD, meets, h1, geD, modD, subD]
    · have hg : ((Nat.gcd s p : Nat) : Int) ≠ 0 := by
        have := Nat.gcd_pos_of_pos_left p (Nat.pos_of_ne_zero h1)
        omega
      simp [F__law_meets, m__law_meets, s_runB, startL, vr, eqD, scalD, meets, h1, h2, hd, modD, subD, hg]
end Gk69

namespace Gk69
open PySem PySem.Spec PyProof.Rows L2 Dn
/-- a row as it must be -/
structure Row where
  a : Nat
  s : Nat
  b : Nat
  p : Nat
def Row.d (r : Row) : D := .tup [.int r.a, .int r.s, .int r.b, .int r.p]
theorem rowOk_ex {d : D} (h : rowOk d = true) (hc : clean2 d = true) : ∃ r : Row, d = r.d ∧ r.s ≤ 240 ∧ r.p < 2 ^ 400000 := by
  unfold rowOk at h
  split at h
  · rename_i a b c e
    simp only [Bool.and_eq_true, decide_eq_true_eq] at h
    obtain ⟨⟨h1, h2, h3, h4⟩, h5, h6⟩ := h
    refine ⟨⟨a.toNat, b.toNat, c.toNat, e.toNat⟩, ?_, by show b.toNat ≤ 240; omega, ?_⟩
    · show D.tup _ = D.tup [.int (a.toNat : Nat), .int (b.toNat : Nat), .int (c.toNat : Nat), .int (e.toNat : Nat)]
      rw [Int.toNat_of_nonneg h1, Int.toNat_of_nonneg h2, Int.toNat_of_nonneg h3, Int.toNat_of_nonneg h4]
    · simp only [clean2, Bool.and_eq_true, List.all_eq_true] at hc
      have := hc.1 (.int e) (by simp)
      have h7 := of_decide_eq_true this
      show e.toNat < 2 ^ 400000
      have h8 : e.natAbs = e.toNat := by omega
      rw [h8] at h7
      by_cases h0 : e.toNat = 0
      · rw [h0]
        exact Nat.pow_pos (by decide)
      · exact Nat.lt_of_lt_of_le ((Nat.log2_lt h0).mp h7) (Nat.pow_le_pow_right (by decide) (by omega))
  · cases h
def touch (r m : Row) : Bool := meets r.a r.s m.a m.s || meets r.b r.p m.b m.p
def rowsOf (ds : List D) : Prop := ∃ rs : List Row, ds = rs.map Row.d ∧ ∀ r ∈ rs, r.s ≤ 240 ∧ r.p < 2 ^ 400000
theorem rows_ex : ∀ {ds : List D}, ds.all rowOk = true → (∀ d ∈ ds, clean2 d = true) → ∃ rs : List Row, ds = rs.map Row.d ∧ ∀ r ∈ rs, r.s ≤ 240 ∧ r.p < 2 ^ 400000
  | [], _, _ => ⟨[], rfl, fun _ h => by cases h⟩
  | d :: ds, h, hc => by
    rw [List.all_cons, Bool.and_eq_true] at h
    obtain ⟨r, h1, h2, h3⟩ := rowOk_ex h.1 (hc d (List.mem_cons_self ..))
    obtain ⟨rs, h4, h5⟩ := rows_ex h.2 fun d' hd => hc d' (List.mem_cons_of_mem _ hd)
    exact ⟨r :: rs, by rw [h1, h4]; rfl, fun r' hr => (List.mem_cons.mp hr).elim (fun e => by rw [e]; exact ⟨h2, h3⟩) (h5 r')⟩
def lcmR (rs : List Row) : Nat := ((rs.map Row.s).filter (0 < ·)).foldl Nat.lcm 1
def pairsR : List Row → List Row → Bool
  | _, [] => false
  | pre, r :: rs => pre.any (touch r) || pairsR (pre ++ [r]) rs
/-- the pairs as the program lays them -/
def pairsD : List Row → List Row → List (Row × Row)
  | _, [] => []
  | pre, r :: rs => (pre.map fun m => (r, m)) ++ pairsD (pre ++ [r]) rs
theorem pairs_any : ∀ (rs pre : List Row), (pairsD pre rs).any (fun q => touch q.1 q.2) = pairsR pre rs
  | [], pre => rfl
  | r :: rs, pre => by
    simp only [pairsD, pairsR, List.any_append, List.any_map, pairs_any rs (pre ++ [r])]
    rfl
def pairD (q : Row × Row) : D := .tup [q.1.d, q.2.d]
theorem idxR0 (r : Row) : idxD r.d (.int 0) = .ok (.int r.a) := rfl
theorem idxR1 (r : Row) : idxD r.d (.int 1) = .ok (.int r.s) := rfl
theorem idxR2 (r : Row) : idxD r.d (.int 2) = .ok (.int r.b) := rfl
theorem idxR3 (r : Row) : idxD r.d (.int 3) = .ok (.int r.p) := rfl
/-- all([is_row(row) for row in x]) -/
theorem all_rows {e : Lc} {i j : Nat} {ds : List D} (hj : e[j]? = some (some (.tup ds))) (hi : i < e.length) (hc : ∀ d ∈ ds, clean2 d = true) (hz : ds.length ≤ 1000) :
    callD allD (consA (asL (lcM [i] (seqM (vr j)) (nmG i) yesT (calM F_is_row [] (consA (vr i) nilA)))) nilA) e = .ok (.bl (ds.all rowOk), e) := by
  have h1 := lcM_map (i := i) (e := e) (el := calM F_is_row [] (consA (vr i) nilA)) (F := seqM (vr j)) (ds := ds) (hh := fun d => .bl (rowOk d)) (by simp [vr_get _ _ _ hj]) (le_size hz) hi fun d hd => by
    have h2 : vr i (e.set i (some d)) = .ok (d, e.set i (some d)) := vr_get _ _ _ (List.getElem?_set_self hi)
    simp [h2, is_row_eq d (hc d hd)]
  simp only [s_callD, s_consA, s_asL, s_nilA]
  rw [h1]
  simp [allD, blsD_map, List.all_map, Function.comp_def]
theorem filt_rows (rs : List Row) : ((rs.map Row.d).filter fun d => match d with | .tup [_, .int s, _, _] => decide (0 < s) | _ => false).map (fun d => match d with | .tup [_, x, _, _] => x | _ => .non) = ((rs.map Row.s).filter (0 < ·)).map fun (n : Nat) => D.int n := by
  induction rs with
  | nil => rfl
  | cons r rs ih =>
    by_cases h : 0 < r.s
    · rw [List.map_cons, List.map_cons, List.filter_cons_of_pos (by simp [Row.d]; omega), List.filter_cons_of_pos (by simp; omega), List.map_cons, List.map_cons, ih]
      rfl
    · rw [List.map_cons, List.map_cons, List.filter_cons_of_neg (by simp [Row.d]; omega), List.filter_cons_of_neg (by simp; omega), ih]
theorem common_rows (rs : List Row) (h : ∀ r ∈ rs, r.s ≤ 240) (hl : rs.length ≤ 60) {x1 x2 x3 x4 : Option D} :
    calM F_common [] (consA (asL (lcM [3] (seqM (vr 0)) (nmG 3) (tst (bin2 gtD (bin2 idxD (vr 3) (cst (.int 1))) (cst (.int 0)))) (bin2 idxD (vr 3) (cst (.int 1))))) nilA) [some (.tup (rs.map Row.d)), x1, x2, x3, x4] = .ok (.int (lcmR rs), [some (.tup (rs.map Row.d)), x1, x2, x3, x4]) := by
  have h1 := lcM_filt (i := 3) (e := [some (.tup (rs.map Row.d)), x1, x2, x3, x4]) (F := seqM (vr 0)) (ds := rs.map Row.d) (t := tst (bin2 gtD (bin2 idxD (vr 3) (cst (.int 1))) (cst (.int 0)))) (el := bin2 idxD (vr 3) (cst (.int 1)))
    (p := fun d => match d with | .tup [_, .int s, _, _] => decide (0 < s) | _ => false) (hh := fun d => match d with | .tup [_, x, _, _] => x | _ => .non)
    (by simp [vr]) (by rw [List.length_map]; exact le_size (by omega)) (show 3 < 5 by decide)
    (fun d hd => by
      obtain ⟨r, _, rfl⟩ := List.mem_map.mp hd
      simp [vr, Row.d, idxD, atI, ixN, gtD])
    (fun d hd _ => by
      obtain ⟨r, _, rfl⟩ := List.mem_map.mp hd
      simp [vr, Row.d, idxD, atI, ixN])
  rw [filt_rows] at h1
  have h2 := common_eq ((rs.map Row.s).filter (0 < ·)) (fun n hn => by
    rw [List.mem_filter, List.mem_map] at hn
    obtain ⟨⟨r, hr, rfl⟩, h3⟩ := hn
    have := h r hr
    simp at h3
    omega) (Nat.le_trans (List.length_filter_le _ _) (by rw [List.length_map]; exact hl))
  simp only [s_calM, s_consA, s_asL, s_nilA]
  rw [h1]
  simp only [R.bind_ok, List.append_nil]
  rw [h2]
  rfl
/-- the pairs -/
theorem pairs_flat : ∀ (rs pre : List Row) (k : Nat), pre.length = k → (enumFrom k (rs.map Row.d)).flatMap (fun d => match d with
    | .tup [.int j, r] => (((pre ++ rs).map Row.d).take j.toNat).map fun m => D.tup [r, m]
    | _ => []) = (pairsD pre rs).map pairD
  | [], pre, k, _ => rfl
  | r :: rs, pre, k, hk => by
    have ih := pairs_flat rs (pre ++ [r]) (k + 1) (by rw [List.length_append, hk]; rfl)
    rw [List.append_assoc] at ih
    simp only [List.map_cons, enumFrom, List.flatMap_cons, pairsD, List.map_append, List.map_map]
    have ih2 := ih
    simp only [List.singleton_append, List.map_append, List.map_cons] at ih2
    rw [ih2]
    congr 1
    have e : ((k : Nat) : Int).toNat = k := Int.toNat_natCast k
    rw [e, List.take_append_of_le_length (by rw [List.length_map]; omega), List.take_of_length_le (by rw [List.length_map]; omega), List.map_map]
    rfl
theorem enum_mem : ∀ {ds : List D} {k : Nat} {d : D}, d ∈ enumFrom k ds → ∃ (j : Nat) (x : D), d = .tup [.int j, x]
  | [], _, _, h => by cases h
  | y :: ds, k, d, h => by
    rcases List.mem_cons.mp h with h | h
    · exact ⟨k, y, h⟩
    · exact enum_mem h
theorem pairs_eq (rs : List Row) (hl : rs.length ≤ 60) :
    lcM2 [2, 3, 4] [4] (enumM (consA (vr 0) nilA)) (tupG 2 (consG (nmG 2) (consG (nmG 3) nilG))) yesT (seqM (sliE (vr 0) noP (soP (vr 2)))) (nmG 4) yesT (tupE (consA (vr 3) (consA (vr 4) nilA))) [some (.tup (rs.map Row.d)), none, none, none, none] = .ok ((pairsD [] rs).map pairD, [some (.tup (rs.map Row.d)), none, none, none, none]) := by
  have hen : enumM (consA (vr 0) nilA) [some (.tup (rs.map Row.d)), none, none, none, none] = .ok (enumFrom 0 (rs.map Row.d), [some (.tup (rs.map Row.d)), none, none, none, none]) := by
    simp [enumM, vr]
  have hf := lcS2_flat (vs := [2, 3, 4]) (vs1 := [4]) (g := tupG 2 (consG (nmG 2) (consG (nmG 3) nilG))) (g1 := nmG 4) (f1 := seqM (sliE (vr 0) noP (soP (vr 2)))) (el := tupE (consA (vr 3) (consA (vr 4) nilA)))
    (L := fun d => match d with
      | .tup [.int j, r] => (((([] : List Row) ++ rs).map Row.d).take j.toNat).map fun m => D.tup [r, m]
      | _ => []) (e := [some (.tup (rs.map Row.d)), none, none, none, none]) (B := 60) (enumFrom 0 (rs.map Row.d)) 0 (fun d hd => by
      obtain ⟨j, x, rfl⟩ := enum_mem hd
      refine ⟨[some (.tup (rs.map Row.d)), none, some (.int j), some x, none], (rs.map Row.d).take j, [some (.tup (rs.map Row.d)), none, some (.int j), some x, none], by simp [tupG, consG, nilG], ?_, ?_, ?_, ?_, rfl⟩
      · rw [s_seqM, sli_take (i := 2) (j := 0) rfl rfl]
        rfl
      · rw [List.length_take, List.length_map]
        omega
      · dsimp only
        rw [List.length_map, List.length_take, List.length_map]
        simp
        omega
      · have h1 := lcS_map (i := 4) (e := [some (.tup (rs.map Row.d)), none, some (.int j), some x, none]) (el := tupE (consA (vr 3) (consA (vr 4) nilA))) (hh := fun m => D.tup [x, m]) ((rs.map Row.d).take j) rfl (fun m _ => by
          simp [vr, szR, sizeLine])
        have e : ((j : Nat) : Int).toNat = j := Int.toNat_natCast j
        dsimp only
        rw [e]
        exact h1) (by rw [enumFrom_len, List.length_map]; exact Nat.le_trans (show 0 + 60 * rs.length ≤ 3600 by omega) (by decide))
  rw [pairs_flat rs [] 0 rfl] at hf
  unfold lcM2
  rw [hen]
  simp only [R.bind_ok]
  have hw : wipeL [some (.tup (rs.map Row.d)), none, none, none, none] [2, 3, 4] = [some (.tup (rs.map Row.d)), none, none, none, none] := rfl
  rw [hw, hf]
  rfl
def laysOk : D → Bool
  | .tup ds => decide (ds.length ≤ 60) && ds.all rowOk && (match rowsL ds with
    | rs => decide (lcmR rs ≤ 240) && !pairsR [] rs)
  | _ => false
where
  rowsL : List D → List Row
    | [] => []
    | .tup [.int a, .int s, .int b, .int p] :: r => ⟨a.toNat, s.toNat, b.toNat, p.toNat⟩ :: rowsL r
    | _ :: r => rowsL r
theorem laysOk_tup (ds : List D) : laysOk (.tup ds) = (decide (ds.length ≤ 60) && ds.all rowOk && (decide (lcmR (laysOk.rowsL ds) ≤ 240) && !pairsR [] (laysOk.rowsL ds))) := rfl
theorem rowsL_map : ∀ rs : List Row, laysOk.rowsL (rs.map Row.d) = rs
  | [] => rfl
  | r :: rs => by
    rw [List.map_cons]
    show (⟨((r.a : Nat) : Int).toNat, ((r.s : Nat) : Int).toNat, ((r.b : Nat) : Int).toNat, ((r.p : Nat) : Int).toNat⟩ : Row) :: laysOk.rowsL (rs.map Row.d) = r :: rs
    rw [rowsL_map rs]
    rfl
def clean3 : D → Bool
  | .fn _ => false
  | .int i => decide (i.natAbs.log2 < 300000)
  | .tup ds => ds.all clean2 && decide (ds.length ≤ 1000)
  | _ => true
theorem any_touch (rs : List Row) (h : ∀ r ∈ rs, r.s ≤ 240 ∧ r.p < 2 ^ 400000) (qs : List (Row × Row)) (hq : ∀ q ∈ qs, q.1 ∈ rs ∧ q.2 ∈ rs) (hz : qs.length ≤ sizeLine) (x : D) :
    callD anyD (consA (asL (lcM [3, 4] (seqM (vr 1)) (tupG 2 (consG (nmG 3) (consG (nmG 4) nilG))) yesT (orV (calM (F_rows_touch 2) [] (consA (bin2 idxD (vr 3) (cst (.int 0))) (consA (bin2 idxD (vr 3) (cst (.int 1))) (consA (bin2 idxD (vr 4) (cst (.int 0))) (consA (bin2 idxD (vr 4) (cst (.int 1))) nilA))))) (calM (F_rows_touch 2) [] (consA (bin2 idxD (vr 3) (cst (.int 2))) (consA (bin2 idxD (vr 3) (cst (.int 3))) (consA (bin2 idxD (vr 4) (cst (.int 2))) (consA (bin2 idxD (vr 4) (cst (.int 3))) nilA)))))))) nilA) [some x, some (.lst (qs.map pairD)), none, none, none]
      = .ok (.bl (qs.any fun q => touch q.1 q.2), [some x, some (.lst (qs.map pairD)), none, none, none]) := by
  have h1 := lcS_gen (vs := [3, 4]) (g := tupG 2 (consG (nmG 3) (consG (nmG 4) nilG))) (el := orV (calM (F_rows_touch 2) [] (consA (bin2 idxD (vr 3) (cst (.int 0))) (consA (bin2 idxD (vr 3) (cst (.int 1))) (consA (bin2 idxD (vr 4) (cst (.int 0))) (consA (bin2 idxD (vr 4) (cst (.int 1))) nilA))))) (calM (F_rows_touch 2) [] (consA (bin2 idxD (vr 3) (cst (.int 2))) (consA (bin2 idxD (vr 3) (cst (.int 3))) (consA (bin2 idxD (vr 4) (cst (.int 2))) (consA (bin2 idxD (vr 4) (cst (.int 3))) nilA))))))
    (hh := fun d => match d with
      | .tup [.tup [.int a, .int s, .int b, .int p], .tup [.int a', .int s', .int b', .int p']] => .bl (meets a s a' s' || meets b p b' p')
      | _ => .non) (e := [some x, some (.lst (qs.map pairD)), none, none, none]) (qs.map pairD) (fun d hd => by
      obtain ⟨q, hq', rfl⟩ := List.mem_map.mp hd
      obtain ⟨m1, m2⟩ := hq q hq'
      obtain ⟨r1, r2⟩ := q
      have t1 := touch_eq r1.a r2.a r1.s r2.s (Nat.lt_of_le_of_lt (h r2 m2).1 (Nat.lt_of_lt_of_le (show 240 < 2 ^ 8 by decide) (Nat.pow_le_pow_right (by decide) (by decide))))
      have t2 := touch_eq r1.b r2.b r1.p r2.p (h r2 m2).2
      refine ⟨[some x, some (.lst (qs.map pairD)), none, some r1.d, some r2.d], by simp [tupG, consG, nilG, pairD], ?_, rfl⟩
      simp [vr, idxR0, idxR1, idxR2, idxR3, t1, t2]
      cases e1 : meets r1.a r1.s r2.a r2.s <;> simp [pairD, Row.d, e1])
  have hm : (qs.map pairD).map (fun d => match d with
      | .tup [.tup [.int a, .int s, .int b, .int p], .tup [.int a', .int s', .int b', .int p']] => D.bl (meets a s a' s' || meets b p b' p')
      | _ => .non) = qs.map fun q => D.bl (touch q.1 q.2) := by
    rw [List.map_map]
    rfl
  rw [hm] at h1
  have h2 : lcM [3, 4] (seqM (vr 1)) (tupG 2 (consG (nmG 3) (consG (nmG 4) nilG))) yesT (orV (calM (F_rows_touch 2) [] (consA (bin2 idxD (vr 3) (cst (.int 0))) (consA (bin2 idxD (vr 3) (cst (.int 1))) (consA (bin2 idxD (vr 4) (cst (.int 0))) (consA (bin2 idxD (vr 4) (cst (.int 1))) nilA))))) (calM (F_rows_touch 2) [] (consA (bin2 idxD (vr 3) (cst (.int 2))) (consA (bin2 idxD (vr 3) (cst (.int 3))) (consA (bin2 idxD (vr 4) (cst (.int 2))) (consA (bin2 idxD (vr 4) (cst (.int 3))) nilA)))))) [some x, some (.lst (qs.map pairD)), none, none, none] = .ok (qs.map fun q => D.bl (touch q.1 q.2), [some x, some (.lst (qs.map pairD)), none, none, none]) := by
    unfold lcM
    have e1 : seqM (vr 1) [some x, some (.lst (qs.map pairD)), none, none, none] = .ok (qs.map pairD, [some x, some (.lst (qs.map pairD)), none, none, none]) := by simp [vr]
    rw [e1]
    simp only [R.bind_ok]
    rw [if_pos (by rw [List.length_map]; exact hz)]
    have hw : wipeL [some x, some (.lst (qs.map pairD)), none, none, none] [3, 4] = [some x, some (.lst (qs.map pairD)), none, none, none] := rfl
    rw [hw, h1]
    rfl
  simp only [s_callD, s_consA, s_asL, s_nilA]
  rw [h2]
  have h3 : blsD (qs.map fun q => D.bl (touch q.1 q.2)) = some (qs.map fun q => touch q.1 q.2) := by
    clear h1 h2 hm hz hq
    induction qs with
    | nil => rfl
    | cons q qs ih => simp [blsD, ih]
  simp [anyD, h3, List.any_map, Function.comp_def]
theorem pairsD_mem : ∀ (rs pre : List Row) (q : Row × Row), q ∈ pairsD pre rs → q.1 ∈ rs ∧ q.2 ∈ pre ++ rs
  | [], _, _, h => by cases h
  | r :: rs, pre, q, h => by
    rcases List.mem_append.mp h with h | h
    · obtain ⟨m, hm, rfl⟩ := List.mem_map.mp h
      exact ⟨List.mem_cons_self .., List.mem_append.mpr (.inl hm)⟩
    · obtain ⟨h1, h2⟩ := pairsD_mem rs (pre ++ [r]) q h
      exact ⟨List.mem_cons_of_mem _ h1, by rw [List.append_assoc] at h2; exact h2⟩
theorem pairsD_len : ∀ (rs pre : List Row), (pairsD pre rs).length ≤ rs.length * (pre.length + rs.length)
  | [], _ => by simp [pairsD]
  | r :: rs, pre => by
    have ih := pairsD_len rs (pre ++ [r])
    simp only [pairsD, List.length_append, List.length_map, List.length_cons, List.length_nil] at ih ⊢
    have : (rs.length + 1) * (pre.length + (rs.length + 1)) = rs.length * (pre.length + 1 + rs.length) + (pre.length + (rs.length + 1)) := by
      rw [Nat.add_mul, Nat.one_mul]
      congr 2
      omega
    simp only [Nat.zero_add] at ih
    omega
theorem is_laying_eq (d : D) (h : clean3 d = true) : F_is_laying [d] = .ok (.bl (laysOk d)) := by
  cases d with
  | tup ds =>
    simp only [clean3, Bool.and_eq_true, List.all_eq_true, decide_eq_true_eq] at h
    have ha := all_rows (e := [some (.tup ds), none, none, none, none]) (i := 3) (j := 0) rfl (show 3 < 5 by decide) h.1 h.2
    have hlen : callD lenD (consA (vr 0) nilA) [some (.tup ds), none, none, none, none] = .ok (.int ds.length, [some (.tup ds), none, none, none, none]) := by simp [vr, lenD]
    simp only [F_is_laying, m_is_laying, s_runB, startL, List.map, List.length, List.replicate, List.cons_append, List.nil_append]
    by_cases h60 : ds.length ≤ 60
    · have hl : decide ((60 : Int) < (ds.length : Int)) = false := by
        simp
        omega
      cases hw : ds.all rowOk with
      | false =>
        rw [hw] at ha
        simp [-s_callD, ha, hlen, truR, isiD, isTup, vr, gtD, hl, laysOk, hw]
      | true =>
        rw [hw] at ha
        obtain ⟨rs, rfl, hr⟩ := rows_ex hw h.1
        rw [List.length_map] at h60
        have hcm := common_rows rs (fun r m => (hr r m).1) h60 (x1 := none) (x2 := none) (x3 := none) (x4 := none)
        have hpr := pairs_eq rs h60
        have hat := any_touch rs hr (pairsD [] rs) (fun q hq => by
          have := pairsD_mem rs [] q hq
          exact this) (Nat.le_trans (pairsD_len rs []) (Nat.le_trans (Nat.mul_le_mul h60 (show ([] : List Row).length + rs.length ≤ 60 by simp; omega)) (by decide))) (.tup (rs.map Row.d))
        rw [pairs_any] at hat
        have h60' : decide ((rs.map Row.d).length ≤ 60) = true := by simp; omega
        by_cases hc : lcmR rs ≤ 240
        · have hc' : decide ((240 : Int) < ((lcmR rs : Nat) : Int)) = false := by
            simp
            omega
          have hspec : laysOk (.tup (rs.map Row.d)) = !pairsR [] rs := by
            rw [laysOk_tup, h60', hw, rowsL_map]
            simp [hc]
          rw [hspec]
          have hl2 : decide ((60 : Int) < (rs.length : Int)) = false := by
            simp
            omega
          simp [-s_callD, -s_calM, ha, hlen, hcm, hpr, hat, truR, isiD, isTup, vr, gtD, hl2, hc']
          try (intro _; omega)
        · have hc' : decide ((240 : Int) < ((lcmR rs : Nat) : Int)) = true := by
            simp
            omega
          have hspec : laysOk (.tup (rs.map Row.d)) = false := by
            rw [laysOk_tup, h60', hw, rowsL_map]
            simp [hc]
          rw [hspec]
          simp [-s_callD, -s_calM, ha, hlen, hcm, truR, isiD, isTup, vr, gtD, hc']
          try (intro _; omega)
    · have hl : decide ((60 : Int) < (ds.length : Int)) = true := by
        simp
        omega
      have hz : decide (ds.length ≤ 60) = false := by simp; omega
      simp [-s_callD, ha, hlen, truR, isiD, isTup, vr, gtD, hl, laysOk, hz]
  | fn j => cases h
  | _ => simp [F_is_laying, m_is_laying, s_runB, startL, truR, isiD, isTup, vr, laysOk]
end Gk69

namespace Gk69
open PySem PySem.Spec PyProof.Rows L2 Dn
def idxs : Nat → Nat → List D
  | _, 0 => []
  | k, m + 1 => .int k :: idxs (k + 1) m
theorem rngL_idx (n : Nat) : rngL 0 n = idxs 0 n := by
  have key : ∀ m k, (List.range' k m).map (fun (i : Nat) => D.int ((0 : Int) + (i : Int))) = idxs k m := fun m => by
    induction m with
    | zero => intro k; rfl
    | succ m ih =>
      intro k
      rw [List.range'_succ, List.map_cons, ih]
      show D.int (0 + (k : Int)) :: _ = D.int k :: _
      rw [Int.zero_add]
  unfold rngL
  rw [List.range_eq_range', key]
def touchB : MS := ifS (orT (tru (calM F__law_meets [] (consA (bin2 idxD (vr 3) (cst (.int 0))) (consA (bin2 idxD (vr 3) (cst (.int 1))) (consA (bin2 idxD (vr 4) (cst (.int 0))) (consA (bin2 idxD (vr 4) (cst (.int 1))) nilA)))))) (tru (calM F__law_meets [] (consA (bin2 idxD (vr 3) (cst (.int 2))) (consA (bin2 idxD (vr 3) (cst (.int 3))) (consA (bin2 idxD (vr 4) (cst (.int 2))) (consA (bin2 idxD (vr 4) (cst (.int 3))) nilA)))))))
  (retS (tupE (consA (vr 2) nilA)))
  nxS
theorem small240 {n : Nat} (h : n ≤ 240) : n < 2 ^ 400000 := Nat.lt_of_le_of_lt h (Nat.lt_of_lt_of_le (show 240 < 2 ^ 8 by decide) (Nat.pow_le_pow_right (by decide) (by decide)))
theorem fault_inner (r : Row) (t W : Option D) (k : D) : ∀ (ms : List Row) (x4 : Option D), (∀ m ∈ ms, m.s ≤ 240 ∧ m.p < 2 ^ 400000) →
    (ms.any (touch r) = true ∧ ∃ e', forS (nmG 4) touchB (ms.map Row.d) [t, W, some k, some r.d, x4] = .ok (.rt (.tup [k]), e')) ∨
      (ms.any (touch r) = false ∧ ∃ x4', forS (nmG 4) touchB (ms.map Row.d) [t, W, some k, some r.d, x4] = .ok (.nx, [t, W, some k, some r.d, x4']))
  | [], x4, _ => .inr ⟨rfl, x4, rfl⟩
  | m :: ms, x4, h => by
    obtain ⟨h1, h2⟩ := h m (List.mem_cons_self ..)
    have t1 := law_meets_eq r.a m.a r.s m.s (small240 h1)
    have t2 := law_meets_eq r.b m.b r.p m.p h2
    have hb : touchB [t, W, some k, some r.d, some m.d] = if touch r m = true then .ok (.rt (.tup [k]), [t, W, some k, some r.d, some m.d]) else .ok (.nx, [t, W, some k, some r.d, some m.d]) := by
      unfold touchB
      cases e1 : meets r.a r.s m.a m.s <;> cases e2 : meets r.b r.p m.b m.p <;> simp [vr, idxR0, idxR1, idxR2, idxR3, t1, t2, e1, e2, touch, truR, szR, sizeLine]
    cases ht : touch r m with
    | true =>
      rw [ht, if_pos rfl] at hb
      exact .inl ⟨by rw [List.any_cons, ht]; rfl, _, by rw [List.map_cons]; exact forS_rt rfl hb⟩
    | false =>
      rw [ht, if_neg Bool.false_ne_true] at hb
      rcases fault_inner r t W k ms (some m.d) fun m' hm => h m' (List.mem_cons_of_mem _ hm) with ⟨h3, e', h4⟩ | ⟨h3, x', h4⟩
      · exact .inl ⟨by rw [List.any_cons, ht, h3]; rfl, e', by rw [List.map_cons, forS_cons rfl hb, h4]⟩
      · exact .inr ⟨by rw [List.any_cons, ht, h3]; rfl, x', by rw [List.map_cons, forS_cons rfl hb, h4]⟩
def faultB : MS := seqS (setS 3 (bin2 idxD (vr 0) (vr 2)))
  (seqS (ifS (notT (tru (calM F__law_is_row [] (consA (vr 3) nilA))))
  (retS (tupE (consA (vr 2) nilA)))
  nxS)
  (seqS (setS 1 (bin2 fdivD (bin2 mulD (vr 1) (callD maxD (consA (cst (.int 1)) (consA (bin2 idxD (vr 3) (cst (.int 1))) nilA)))) (calM F__law_shared [] (consA (vr 1) (consA (callD maxD (consA (cst (.int 1)) (consA (bin2 idxD (vr 3) (cst (.int 1))) nilA))) nilA)))))
  (seqS (ifS (tst (bin2 gtD (vr 1) (cst (.int 240))))
  (retS (tupE (consA (vr 2) nilA)))
  nxS)
  (forM (seqM (sliE (vr 0) noP (soP (vr 2)))) (nmG 4) touchB))))
theorem max_eq (s : Nat) : maxD [.int 1, .int s] = .ok (.int (max 1 s : Nat)) := by
  show R.ok (D.int (if (s : Int) > 1 then (s : Int) else 1)) = _
  by_cases h : (s : Int) > 1
  · rw [if_pos h]
    have : max 1 s = s := by omega
    rw [this]
  · rw [if_neg h]
    have : max 1 s = 1 := by omega
    rw [this]
    rfl
theorem rowB_eq {ds : List D} {W x4 : Option D} {k : Nat} {d : D} {b : Bool} (hrow : F__law_is_row [d] = .ok (.bl b)) : ifS (notT (tru (calM F__law_is_row [] (consA (vr 3) nilA)))) (retS (tupE (consA (vr 2) nilA))) nxS [some (.tup ds), W, some (.int k), some d, x4] = if b = true then .ok (.nx, [some (.tup ds), W, some (.int k), some d, x4]) else .ok (.rt (.tup [.int k]), [some (.tup ds), W, some (.int k), some d, x4]) := by
  cases b <;> simp [vr, hrow, truR, szR, sizeLine]
theorem lcmB_eq {t x2 x4 : Option D} {W : Nat} {r : Row} (h1 : r.s ≤ 240) (hW : 1 ≤ W) (hW2 : W ≤ 240) : setS 1 (bin2 fdivD (bin2 mulD (vr 1) (callD maxD (consA (cst (.int 1)) (consA (bin2 idxD (vr 3) (cst (.int 1))) nilA)))) (calM F__law_shared [] (consA (vr 1) (consA (callD maxD (consA (cst (.int 1)) (consA (bin2 idxD (vr 3) (cst (.int 1))) nilA))) nilA)))) [t, some (.int W), x2, some r.d, x4] = .ok (.nx, [t, some (.int (Nat.lcm W (max 1 r.s) : Nat)), x2, some r.d, x4]) := by
  have hmx := max_eq r.s
  have hM1 : 1 ≤ max 1 r.s := Nat.le_max_left ..
  have hM2 : max 1 r.s ≤ 240 := by omega
  have hs := lcm_step (L := W) (n := max 1 r.s) (m := 8) (by omega) hW hM1 hM2 (by decide)
  have hsh := shared_eq W (max 1 r.s) (small240 hM2)
  generalize max 1 r.s = M at hmx hM1 hM2 hs hsh
  cases e1 : mulD (.int W) (.int M) with
  | ok d =>
    rw [e1] at hs
    have hs' : fdivD d (.int (Nat.gcd W M)) = .ok (.int (Nat.lcm W M)) := hs
    simp [vr, idxR1, hmx, e1, hsh, hs']
  | exc y z => exact absurd e1 (mulD_nx _ _ _ _)
  | bad =>
    rw [e1] at hs
    cases hs
theorem bigB_eq {t x3 x4 : Option D} {W k : Nat} : ifS (tst (bin2 gtD (vr 1) (cst (.int 240)))) (retS (tupE (consA (vr 2) nilA))) nxS [t, some (.int W), some (.int k), x3, x4] = if W ≤ 240 then .ok (.nx, [t, some (.int W), some (.int k), x3, x4]) else .ok (.rt (.tup [.int k]), [t, some (.int W), some (.int k), x3, x4]) := by
  by_cases h : W ≤ 240
  · have hc' : decide ((240 : Int) < ((W : Nat) : Int)) = false := by
      simp only [decide_eq_false_iff_not]
      omega
    rw [if_pos h]
    simp [vr, gtD, szR, sizeLine]
    omega
  · rw [if_neg h]
    simp [vr, gtD, szR, sizeLine]
    omega
theorem fault_step {ds : List D} {k W : Nat} {d : D} {x3 x4 : Option D} {pre : List Row} (hk : ds[k]? = some d) (hc : clean2 d = true) (hpre : ds.take k = pre.map Row.d) (hm : ∀ m ∈ pre, m.s ≤ 240 ∧ m.p < 2 ^ 400000) (hW : 1 ≤ W) (hW2 : W ≤ 240) :
    (∃ (r : Row) (x4' : Option D), rowOk d = true ∧ d = r.d ∧ r.s ≤ 240 ∧ r.p < 2 ^ 400000 ∧ Nat.lcm W (max 1 r.s) ≤ 240 ∧ pre.any (touch r) = false ∧ faultB [some (.tup ds), some (.int W), some (.int k), x3, x4] = .ok (.nx, [some (.tup ds), some (.int (Nat.lcm W (max 1 r.s) : Nat)), some (.int k), some d, x4']))
    ∨ ((rowOk d = false ∨ ∃ r : Row, d = r.d ∧ (240 < Nat.lcm W (max 1 r.s) ∨ pre.any (touch r) = true)) ∧ ∃ e', faultB [some (.tup ds), some (.int W), some (.int k), x3, x4] = .ok (.rt (.tup [.int k]), e')) := by
  have hrow := law_is_row_eq d hc
  have hix := idx_tup hk
  have st1 : setS 3 (bin2 idxD (vr 0) (vr 2)) [some (.tup ds), some (.int W), some (.int k), x3, x4] = .ok (.nx, [some (.tup ds), some (.int W), some (.int k), some d, x4]) := by simp [vr, hix]
  have st2 := rowB_eq (ds := ds) (W := some (.int W)) (x4 := x4) (k := k) hrow
  cases hw : rowOk d with
  | false =>
    rw [hw, if_neg Bool.false_ne_true] at st2
    refine .inr ⟨.inl rfl, [some (.tup ds), some (.int W), some (.int k), some d, x4], ?_⟩
    unfold faultB
    rw [s_seq, st1, seqK_nx, s_seq, st2, seqK_rt]
  | true =>
    rw [hw, if_pos rfl] at st2
    obtain ⟨r, rfl, h1, h2⟩ := rowOk_ex hw hc
    have st3 := lcmB_eq (t := some (.tup ds)) (x2 := some (.int k)) (x4 := x4) h1 hW hW2
    have st4 := bigB_eq (t := some (.tup ds)) (x3 := some r.d) (x4 := x4) (W := Nat.lcm W (max 1 r.s)) (k := k)
    by_cases hc2 : Nat.lcm W (max 1 r.s) ≤ 240
    · rw [if_pos hc2] at st4
      have hsl : seqM (sliE (vr 0) noP (soP (vr 2))) [some (.tup ds), some (.int (Nat.lcm W (max 1 r.s) : Nat)), some (.int k), some r.d, x4] = .ok (pre.map Row.d, [some (.tup ds), some (.int (Nat.lcm W (max 1 r.s) : Nat)), some (.int k), some r.d, x4]) := by
        rw [s_seqM, sli_take (i := 2) (j := 0) (k := k) rfl rfl, hpre]
        rfl
      rcases fault_inner r (some (.tup ds)) (some (.int (Nat.lcm W (max 1 r.s) : Nat))) (.int k) pre x4 hm with ⟨h3, e', h4⟩ | ⟨h3, x', h4⟩
      · refine .inr ⟨.inr ⟨r, rfl, .inr h3⟩, e', ?_⟩
        unfold faultB
        rw [s_seq, st1, seqK_nx, s_seq, st2, seqK_nx, s_seq, st3, seqK_nx, s_seq, st4, seqK_nx, s_forM, hsl]
        exact h4
      · refine .inl ⟨r, x', rfl, rfl, h1, h2, hc2, h3, ?_⟩
        unfold faultB
        rw [s_seq, st1, seqK_nx, s_seq, st2, seqK_nx, s_seq, st3, seqK_nx, s_seq, st4, seqK_nx, s_forM, hsl]
        exact h4
    · rw [if_neg hc2] at st4
      refine .inr ⟨.inr ⟨r, rfl, .inl (by omega)⟩, [some (.tup ds), some (.int (Nat.lcm W (max 1 r.s) : Nat)), some (.int k), some r.d, x4], ?_⟩
      unfold faultB
      rw [s_seq, st1, seqK_nx, s_seq, st2, seqK_nx, s_seq, st3, seqK_nx, s_seq, st4, seqK_rt]
theorem getRow {pre : List Row} {d : D} {suf : List D} : (pre.map Row.d ++ d :: suf)[pre.length]? = some d := by
  rw [List.getElem?_append_right (by rw [List.length_map]; exact Nat.le_refl _), List.length_map, Nat.sub_self]
  rfl
theorem takeRow {pre : List Row} {suf : List D} : (pre.map Row.d ++ suf).take pre.length = pre.map Row.d := by
  rw [List.take_append_of_le_length (by rw [List.length_map]; exact Nat.le_refl _), List.take_of_length_le (by rw [List.length_map]; exact Nat.le_refl _)]
/-- the least common multiple of a list and a number, from W on -/
def lcmW (W : Nat) (rs : List Row) : Nat := (rs.map fun r => max 1 r.s).foldl Nat.lcm W
theorem lcmW_dvd : ∀ (rs : List Row) (W : Nat), W ∣ lcmW W rs
  | [], W => Nat.dvd_refl W
  | r :: rs, W => Nat.dvd_trans (Nat.dvd_lcm_left W (max 1 r.s)) (lcmW_dvd rs (Nat.lcm W (max 1 r.s)))
theorem lcmW_pos : ∀ (rs : List Row) (W : Nat), 1 ≤ W → 1 ≤ lcmW W rs
  | [], W, h => h
  | r :: rs, W, h => lcmW_pos rs (Nat.lcm W (max 1 r.s)) (Nat.pos_of_ne_zero (Nat.lcm_ne_zero (by omega) (by omega)))
theorem lcmW_le {rs : List Row} {W : Nat} (h : 1 ≤ W) (h2 : lcmW W rs ≤ 240) : W ≤ 240 := Nat.le_trans (Nat.le_of_dvd (lcmW_pos rs W h) (lcmW_dvd rs W)) h2
theorem lcmW_filt : ∀ (rs : List Row) (W : Nat), lcmW W rs = ((rs.map Row.s).filter (0 < ·)).foldl Nat.lcm W
  | [], W => rfl
  | r :: rs, W => by
    by_cases h : 0 < r.s
    · have e : max 1 r.s = r.s := by omega
      rw [List.map_cons, List.filter_cons_of_pos (by simpa using h)]
      show lcmW (Nat.lcm W (max 1 r.s)) rs = _
      rw [e, lcmW_filt rs]
      rfl
    · have e : max 1 r.s = 1 := by omega
      rw [List.map_cons, List.filter_cons_of_neg (by simpa using h)]
      show lcmW (Nat.lcm W (max 1 r.s)) rs = _
      rw [e, Nat.lcm_one_right, lcmW_filt rs]
theorem fault_go : ∀ (suf : List D) (pre : List Row) (W : Nat) (x2 x3 x4 : Option D), (∀ d ∈ suf, clean2 d = true) → (∀ m ∈ pre, m.s ≤ 240 ∧ m.p < 2 ^ 400000) → 1 ≤ W → W ≤ 240 →
    (∃ (rs : List Row) (x2' x3' x4' : Option D) (W' : Nat), suf.all rowOk = true ∧ suf = rs.map Row.d ∧ lcmW W rs ≤ 240 ∧ pairsR pre rs = false ∧ forS (nmG 2) faultB (idxs pre.length suf.length) [some (.tup (pre.map Row.d ++ suf)), some (.int W), x2, x3, x4] = .ok (.nx, [some (.tup (pre.map Row.d ++ suf)), some (.int W'), x2', x3', x4']))
    ∨ ((suf.all rowOk = false ∨ ∃ rs : List Row, suf = rs.map Row.d ∧ (240 < lcmW W rs ∨ pairsR pre rs = true)) ∧ ∃ (k : D) (e' : Lc), forS (nmG 2) faultB (idxs pre.length suf.length) [some (.tup (pre.map Row.d ++ suf)), some (.int W), x2, x3, x4] = .ok (.rt (.tup [k]), e'))
  | [], pre, W, x2, x3, x4, _, _, _, hW2 => .inl ⟨[], x2, x3, x4, W, rfl, rfl, hW2, rfl, rfl⟩
  | d :: suf, pre, W, x2, x3, x4, hc, hm, hW, hW2 => by
    have hk : (pre.map Row.d ++ d :: suf)[pre.length]? = some d := getRow
    rcases fault_step (x3 := x3) (x4 := x4) hk (hc d (List.mem_cons_self ..)) takeRow hm hW hW2 with ⟨r, x4', h1, rfl, h2, h3, h4, h5, h6⟩ | ⟨h1, e', h6⟩
    · have e1 : (pre ++ [r]).map Row.d ++ suf = pre.map Row.d ++ r.d :: suf := by simp
      have e2 : (pre ++ [r]).length = pre.length + 1 := by simp
      have hpos : 1 ≤ Nat.lcm W (max 1 r.s) := Nat.pos_of_ne_zero (Nat.lcm_ne_zero (by omega) (by omega))
      have ih := fault_go suf (pre ++ [r]) (Nat.lcm W (max 1 r.s)) (some (.int pre.length)) (some r.d) x4' (fun d' hd => hc d' (List.mem_cons_of_mem _ hd)) (fun m hm' => by
        rcases List.mem_append.mp hm' with z | z
        · exact hm m z
        · rw [List.mem_singleton.mp z]
          exact ⟨h2, h3⟩) hpos h4
      rw [e1, e2] at ih
      have hs : forS (nmG 2) faultB (idxs pre.length (r.d :: suf).length) [some (.tup (pre.map Row.d ++ r.d :: suf)), some (.int W), x2, x3, x4] = forS (nmG 2) faultB (idxs (pre.length + 1) suf.length) [some (.tup (pre.map Row.d ++ r.d :: suf)), some (.int (Nat.lcm W (max 1 r.s) : Nat)), some (.int pre.length), some r.d, x4'] := forS_cons rfl h6
      rw [hs]
      rcases ih with ⟨rs, y2, y3, y4, W', g1, rfl, g3, g4, g5⟩ | ⟨g1, k, e', g2⟩
      · exact .inl ⟨r :: rs, y2, y3, y4, W', by rw [List.all_cons, h1, g1]; rfl, rfl, g3, by show (pre.any (touch r) || pairsR (pre ++ [r]) rs) = false; rw [h5, g4]; rfl, g5⟩
      · refine .inr ⟨?_, k, e', g2⟩
        rcases g1 with g1 | ⟨rs, rfl, g1⟩
        · exact .inl (by rw [List.all_cons, g1, Bool.and_false])
        · refine .inr ⟨r :: rs, rfl, ?_⟩
          rcases g1 with g1 | g1
          · exact .inl g1
          · exact .inr (by show (pre.any (touch r) || pairsR (pre ++ [r]) rs) = true; rw [g1, Bool.or_true])
    · refine .inr ⟨?_, .int pre.length, e', forS_rt rfl h6⟩
      rcases h1 with h1 | ⟨r, rfl, h1⟩
      · exact .inl (by rw [List.all_cons, h1, Bool.false_and])
      · by_cases hw : suf.all rowOk = true
        · obtain ⟨rs, rfl, _⟩ := rows_ex hw fun d' hd => hc d' (List.mem_cons_of_mem _ hd)
          refine .inr ⟨r :: rs, rfl, ?_⟩
          rcases h1 with h1 | h1
          · refine .inl (Nat.lt_of_not_le fun z => ?_)
            have hpos : 1 ≤ Nat.lcm W (max 1 r.s) := Nat.pos_of_ne_zero (Nat.lcm_ne_zero (by omega) (by omega))
            have := lcmW_le (rs := rs) hpos z
            omega
          · exact .inr (by show (pre.any (touch r) || pairsR (pre ++ [r]) rs) = true; rw [h1, Bool.true_or])
        · refine .inl ?_
          rw [List.all_cons]
          cases h : suf.all rowOk with
          | true => exact absurd h hw
          | false => rw [Bool.and_false]
def faultR : MD (List D) := rng1M (consA (callD lenD (consA (vr 0) nilA)) nilA)
def faultH : MS := ifS (orT (notT (tru (un1 (isiD isTup) (vr 0)))) (tst (bin2 gtD (callD lenD (consA (vr 0) nilA)) (cst (.int 60))))) (retS (tupE (consA (cst .non) nilA))) nxS
theorem ft_m : m__law_fault = seqS faultH (seqS (setS 1 (cst (.int 1))) (seqS (forM faultR (nmG 2) faultB) (retS (tupE nilA)))) := rfl
theorem ft_len {ds : List D} {W x2 x3 x4 : Option D} : callD lenD (consA (vr 0) nilA) [some (.tup ds), W, x2, x3, x4] = .ok (.int ds.length, [some (.tup ds), W, x2, x3, x4]) := by simp [vr, lenD]
theorem ft_rng {ds : List D} {W x2 x3 x4 : Option D} (h : ds.length ≤ 60) : faultR [some (.tup ds), W, x2, x3, x4] = .ok (idxs 0 ds.length, [some (.tup ds), W, x2, x3, x4]) := by
  unfold faultR
  rw [← rngL_idx]
  refine rng1M_ok (n := ds.length) ?_ (by omega)
  rw [s_consA, ft_len]
  rfl
theorem ft_st1 {ds : List D} {W x2 x3 x4 : Option D} (h : ds.length ≤ 60) : faultH [some (.tup ds), W, x2, x3, x4] = .ok (.nx, [some (.tup ds), W, x2, x3, x4]) := by
  unfold faultH
  simp [-s_callD, ft_len, truR, isiD, isTup, vr, gtD]
  omega
theorem ft_big {ds : List D} {W x2 x3 x4 : Option D} (h : ¬ ds.length ≤ 60) : faultH [some (.tup ds), W, x2, x3, x4] = .ok (.rt (.tup [.non]), [some (.tup ds), W, x2, x3, x4]) := by
  unfold faultH
  simp [-s_callD, ft_len, truR, isiD, isTup, vr, gtD, szR, sizeLine]
  omega
theorem fault_tail {ds : List D} (h60 : ds.length ≤ 60) : F__law_fault [.tup ds] = outB false (seqK (forS (nmG 2) faultB (idxs 0 ds.length) [some (.tup ds), some (.int 1), none, none, none]) (retS (tupE nilA))) := by
  unfold F__law_fault
  rw [s_runB, ft_m]
  show outB false (seqS faultH _ [some (.tup ds), none, none, none, none]) = _
  rw [s_seq, ft_st1 h60, seqK_nx, s_seq]
  show outB false (seqK (.ok (.nx, [some (.tup ds), some (.int 1), none, none, none])) _) = _
  rw [seqK_nx, s_seq, s_forM, ft_rng h60, R.bind_ok]
theorem fault_tup (ds : List D) (h : ∀ d ∈ ds, clean2 d = true) : ∃ r : List D, F__law_fault [.tup ds] = .ok (.tup r) ∧ r.isEmpty = laysOk (.tup ds) := by
  by_cases h60 : ds.length ≤ 60
  · have key := fault_go ds [] 1 none none none h (fun _ z => by cases z) (by decide) (by decide)
    simp only [List.map_nil, List.nil_append, List.length_nil] at key
    rw [show (((1 : Nat)) : Int) = 1 from rfl] at key
    have hd60 : decide (ds.length ≤ 60) = true := decide_eq_true h60
    rcases key with ⟨rs, y2, y3, y4, W', g1, rfl, g3, g4, g5⟩ | ⟨g1, k, e', g5⟩
    · refine ⟨[], ?_, ?_⟩
      · rw [fault_tail h60, g5, seqK_nx]
        rfl
      · rw [laysOk_tup, hd60, g1, rowsL_map, g4]
        have : lcmR rs ≤ 240 := by
          rw [lcmW_filt] at g3
          exact g3
        rw [decide_eq_true this]
        rfl
    · refine ⟨[k], ?_, ?_⟩
      · rw [fault_tail h60, g5, seqK_rt, outB_rt]
      · rw [laysOk_tup, hd60]
        rcases g1 with g1 | ⟨rs, rfl, g1⟩
        · rw [g1]
          rfl
        · rw [rowsL_map]
          rcases g1 with g1 | g1
          · have : ¬ lcmR rs ≤ 240 := by
              rw [lcmW_filt] at g1
              exact Nat.not_le.mpr g1
            rw [decide_eq_false this]
            cases (rs.map Row.d).all rowOk <;> rfl
          · rw [g1]
            cases (rs.map Row.d).all rowOk <;> cases decide (lcmR rs ≤ 240) <;> rfl
  · have hz : decide (ds.length ≤ 60) = false := by simp; omega
    refine ⟨[.non], ?_, by rw [laysOk_tup, hz]; rfl⟩
    unfold F__law_fault
    rw [s_runB, ft_m]
    show outB false (seqS faultH _ [some (.tup ds), none, none, none, none]) = _
    rw [s_seq, ft_big h60, seqK_rt, outB_rt]
theorem law_fault_eq (d : D) (h : clean3 d = true) : ∃ r : List D, F__law_fault [d] = .ok (.tup r) ∧ r.isEmpty = laysOk d := by
  cases d with
  | tup ds =>
    simp only [clean3, Bool.and_eq_true, List.all_eq_true, decide_eq_true_eq] at h
    exact fault_tup ds h.1
  | fn j => cases h
  | _ => exact ⟨[.non], by unfold F__law_fault; rw [s_runB, ft_m]; simp [faultH, startL, truR, isiD, isTup, vr, szR, sizeLine], rfl⟩
end Gk69

namespace Gk69
open PySem PySem.Spec PyProof.Rows L2 Dn
/-- a purse: its count at most k -/
def Purse (k : Nat) (p : D) : Prop := ∃ a b c : Nat, p = .lst [.int a, .int b, .int c] ∧ a < 1000000021 ∧ c ≤ k
theorem Purse.mk {k : Nat} {A B C : Int} (hA : 0 ≤ A ∧ A < 1000000021) (hB : 0 ≤ B) (hC : 0 ≤ C ∧ C ≤ k) : Purse k (.lst [.int A, .int B, .int C]) := by
  refine ⟨A.toNat, B.toNat, C.toNat, ?_, by omega, by omega⟩
  rw [Int.toNat_of_nonneg hA.1, Int.toNat_of_nonneg hB, Int.toNat_of_nonneg hC.1]
theorem Purse.le {k m : Nat} {p : D} (h : Purse k p) (hm : k ≤ m) : Purse m p := by
  obtain ⟨a, b, c, h1, h2, h3⟩ := h
  exact ⟨a, b, c, h1, h2, by omega⟩
theorem natOf {r : Int} {n : Nat} (h : 0 ≤ r) (h2 : r < n) : ∃ x : Nat, D.int r = .int x ∧ x < n := ⟨r.toNat, by rw [Int.toNat_of_nonneg h], by omega⟩
theorem take_ok {k n : Nat} {p : D} (hp : Purse k p) (hk : k ≤ 1000000000) (h0 : 0 < n) (hn : n ≤ 1000000) : OkI (F__law_take p [.int n]) fun r p' => ∃ x : Nat, r = .int x ∧ x < n ∧ Purse (k + 1) p' := by
  obtain ⟨a, b, c, rfl, ha, hc⟩ := hp
  unfold F__law_take
  refine w_runI (e0 := [some (.lst [.int a, .int b, .int c]), some (.int n), none, none]) rfl ?_
  unfold m__law_take
  walk_at "vc"
  refine if_d (fun h => ?_) (fun h => ?_)
  · walk_at "vc"
    obtain ⟨x, h1, h2⟩ := natOf (r := (b : Int) % n) (n := n) (Int.emod_nonneg _ (by omega)) (Int.emod_lt_of_pos _ (by omega))
    exact ⟨x, h1, h2, Purse.mk (by omega) (Int.ediv_nonneg (by omega) (by omega)) (by omega)⟩
  · walk_at "vc"
    obtain ⟨x, h1, h2⟩ := natOf (r := ((a * (a % 50021 + 20011) + 60013 * (c + 1) + 5) % 1000000021 / 32 : Int) % n) (n := n) (Int.emod_nonneg _ (by omega)) (Int.emod_lt_of_pos _ (by omega))
    exact ⟨x, h1, h2, Purse.mk (by omega) (by omega) (by omega)⟩
end Gk69

namespace Gk69
open PySem PySem.Spec PyProof.Rows L2 Dn
theorem rngL_mem {n i : Nat} {d : D} (h : (rngL 0 n)[i]? = some d) : d = .int i ∧ i < n := by
  rw [rngL_get] at h
  by_cases hi : i < n
  · rw [if_pos hi] at h
    cases h
    exact ⟨by rw [Int.zero_add], hi⟩
  · rw [if_neg hi] at h
    cases h
theorem getSome {α : Type} {ds : List α} {k : Nat} (h : k < ds.length) : ∃ d, ds[k]? = some d ∧ d ∈ ds := ⟨ds[k], List.getElem?_eq_getElem h, List.getElem_mem h⟩
/-- a class of numbers -/
def Cls (d : D) : Prop := ∃ r s : Int, d = .tup [.int r, .int s] ∧ 0 ≤ r ∧ r < s ∧ s ≤ 24
theorem classes_ok {k n : Nat} {p : D} (hp : Purse k p) (hk : k + 2 * n ≤ 1000000000) (hn : n ≤ 400) : OkI (F__law_classes p [.int n]) fun r p' => ∃ ds : List D, r = .lst ds ∧ (∀ d ∈ ds, Cls d) ∧ 1 ≤ ds.length ∧ ds.length ≤ 1 + 2 * n ∧ Purse (k + 2 * n) p' := by
  unfold F__law_classes
  refine w_runI (e0 := [some p, some (.int n), none, none, none, none, none, none, none, none]) rfl ?_
  unfold m__law_classes
  walk_at "vc"
  refine w_forM (fun _ i e => ∃ (p : D) (fs : List D) (x3 x4 x5 x6 x7 x8 x9 : Option D), e = [some p, some (.int n), some (.lst fs), x3, x4, x5, x6, x7, x8, x9] ∧ Purse (k + 2 * i) p ∧ (∀ d ∈ fs, Cls d) ∧ 1 ≤ fs.length ∧ fs.length ≤ 1 + 2 * i) ?_
  walk_at "vc"
  refine ⟨by omega, ?_, ?_, ?_⟩
  · exact ⟨p, [.tup [.int 0, .int 1]], _, _, _, _, _, _, _, rfl, hp, fun d hd => by rw [List.mem_singleton.mp hd]; exact ⟨0, 1, rfl, by decide, by decide, by decide⟩, Nat.le_refl _, Nat.le_refl _⟩
  · rintro i d e hd ⟨p, fs, x3, x4, x5, x6, x7, x8, x9, rfl, hp, hf, h1, h2⟩
    obtain ⟨rfl, hi⟩ := rngL_mem hd
    walk_at "vc"
    refine (take_ok hp (by omega) (by omega) (by omega)).mono ?_
    rintro _ p1 ⟨at', rfl, hat, hp1⟩
    walk_at "vc"
    refine (take_ok (n := 2) hp1 (by omega) (by omega) (by omega)).mono ?_
    rintro _ p2 ⟨y, rfl, hy, hp2⟩
    walk_at "vc"
    obtain ⟨d0, hd0, hm0⟩ := getSome hat
    refine o_idxL hd0 ?_
    obtain ⟨r, s, rfl, hr, hrs, hs⟩ := hf d0 hm0
    walk_at "vc"
    have hy2 : (y : Int) = 0 ∨ (y : Int) = 1 := by omega
    have hc : s * (2 + (y : Int)) ≥ 1 := Int.mul_pos (by omega) (by omega)
    refine o_modE hc ?_
    walk_at "vc"
    refine if_e (fun h => ?_) (fun h => ?_)
    · have hle : s * (2 + (y : Int)) ≤ 24 := Int.le_of_dvd (by decide) (Int.dvd_of_emod_eq_zero h)
      walk_at "vc"
      refine w_lcM (fun _ _ d => Cls d) (Nat.le_of_ble_eq_true rfl) ?_
      walk_at "vc"
      refine nat_i (by omega) fun c hcc => ?_
      refine ⟨by omega, rfl, by rw [rngL_len]; exact le_size (by omega), ?_, ?_⟩
      · intro d hd
        obtain ⟨j, hj⟩ := List.getElem?_of_mem hd
        obtain ⟨rfl, hj2⟩ := rngL_mem hj
        walk_at "vc"
        have h3 : s * ((j : Int) + 1) ≤ s * (2 + (y : Int)) := Int.mul_le_mul_of_nonneg_left (by omega) (by omega)
        have h4 : 0 ≤ s * (j : Int) := Int.mul_nonneg (by omega) (by omega)
        rw [Int.mul_add] at h3
        exact ⟨rfl, _, _, rfl, by omega, by omega, by omega⟩
      · intro rs hl hrs'
        walk_at "vc"
        rw [cut_take]
        rw [show ((at' : Int) + 1) = ((at' + 1 : Nat) : Int) from rfl, cut_drop]
        refine o_addL (by rw [List.length_take, List.length_drop]; exact le_size (by omega)) ?_
        walk_at "vc"
        rw [rngL_len] at hl
        refine ⟨by rw [List.length_append, List.length_take, List.length_drop, hl]; exact le_size (by omega), rfl, ?_⟩
        refine ⟨_, _, _, _, _, _, _, _, _, rfl, hp2.le (by omega), ?_, ?_, ?_⟩
        · intro d hd
          rcases List.mem_append.mp hd with hd | hd
          · rcases List.mem_append.mp hd with hd | hd
            · exact hf d (List.mem_of_mem_take hd)
            · exact hf d (List.mem_of_mem_drop hd)
          · obtain ⟨j, hj⟩ := List.getElem?_of_mem hd
            have hjl := (List.getElem?_eq_some_iff.mp hj).1
            obtain ⟨x, hx, _⟩ := getSome (ds := rngL 0 c) (k := j) (by rw [rngL_len]; omega)
            exact hrs' j x d hx hj
        · rw [List.length_append, hl]
          omega
        · rw [List.length_append, List.length_append, List.length_take, List.length_drop, hl]
          omega
    · walk_at "vc"
      exact ⟨rfl, _, _, _, _, _, _, _, _, _, rfl, hp2.le (by omega), hf, h1, by omega⟩
  · rintro e ⟨p, fs, x3, x4, x5, x6, x7, x8, x9, rfl, hp, hf, h1, h2⟩
    rw [rngL_len] at hp h2
    walk_at "vc"
    exact ⟨fs, rfl, hf, h1, h2, hp⟩
end Gk69

namespace Gk69
open PySem PySem.Spec PyProof.Rows L2 Dn
/-- a row such as the law makes -/
def RowS (d : D) : Prop := ∃ a s b p : Int, d = .tup [.int a, .int s, .int b, .int p] ∧ 0 ≤ a ∧ a ≤ 1000 ∧ 0 ≤ s ∧ s ≤ 24 ∧ 0 ≤ b ∧ b ≤ 1000000000000000000000000000000000 ∧ 0 ≤ p ∧ p ≤ 10000000000000000000000
theorem mul_le {x y : Int} {X Y : Int} (h0 : 0 ≤ x) (h1 : x ≤ X) (h2 : 0 ≤ y) (h3 : y ≤ Y) : 0 ≤ x * y ∧ x * y ≤ X * Y := ⟨Int.mul_nonneg h0 h2, Int.mul_le_mul h1 h3 h2 (by omega)⟩
theorem lt_size {n : Nat} (h : n ≤ 1000) : n < sizeLine := Nat.lt_of_le_of_lt h (by decide)
theorem app_ok {P : D → Prop} {ds : List D} {d : D} (h : ∀ x ∈ ds, P x) (hd : P d) : ∀ x ∈ ds ++ [d], P x := fun x hx => by
  rcases List.mem_append.mp hx with hx | hx
  · exact h x hx
  · rw [List.mem_singleton.mp hx]
    exact hd
theorem idx2 {a b : D} {c : Bool} {Q : D → Prop} (h1 : c = true → Q b) (h2 : c = false → Q a) : Ok (idxD (.lst [a, b]) (.int (if c = true then 1 else 0))) Q := by
  cases c
  · exact ⟨_, rfl, h2 rfl⟩
  · exact ⟨_, rfl, h1 rfl⟩
theorem laying_ok {k : Nat} {p : D} {g : Bool} (hp : Purse k p) (hk : k ≤ 100000000) : OkI (F__law_laying p [.bl g]) fun r p' => ∃ ds : List D, r = .tup ds ∧ (∀ d ∈ ds, RowS d) ∧ ds.length ≤ 18 ∧ Purse (k + 200) p' := by
  unfold F__law_laying
  refine w_runI (e0 := [some p, some (.bl g), none, none, none, none, none, none, none, none, none, none, none, none, none]) rfl ?_
  unfold m__law_laying
  walk_at "st"
  refine (take_ok (n := 5) hp (by omega) (by omega) (by omega)).mono ?_
  rintro _ p1 ⟨n1, rfl, hn1, hp1⟩
  walk_at "st"
  refine (classes_ok hp1 (by omega) (by omega)).mono ?_
  rintro _ p2 ⟨nums, rfl, hnums, _, hln, hp2⟩
  walk_at "st"
  refine (take_ok (n := 5) hp2 (by omega) (by omega) (by omega)).mono ?_
  rintro _ p3 ⟨n2, rfl, hn2, hp3⟩
  walk_at "st"
  refine (classes_ok hp3 (by omega) (by omega)).mono ?_
  rintro _ p4 ⟨rooms, rfl, hrooms, _, hlr, hp4⟩
  walk_at "st"
  walk_at "nx"
  have hlift : Wp (parS1 4 5 (szA nilA) (bin2 idxD (lstE (consA (cst (.int 0)) (consA (bin2 powD (cst (.int 10)) (cst (.int 30))) nilA))) (callD intD (consA (andV (vr 1) (bin2 eqD (calI F__law_take 0 (consA (cst (.int 3)) nilA)) (cst (.int 0)))) nilA)))) [some p4, some (.bl g), some (.lst nums), some (.lst rooms), none, none, none, none, none, none, none, none, none, none, none] fun fl e1 => fl = .nx ∧ ∃ (p5 : D) (L : Int), e1 = [some p5, some (.bl g), some (.lst nums), some (.lst rooms), some (.lst []), some (.int L), none, none, none, none, none, none, none, none, none] ∧ Purse (k + 30) p5 ∧ 0 ≤ L ∧ L ≤ 1000000000000000000000000000000 := by
    walk_at "st"
    refine if_v (fun hg => ?_) (fun hg => ?_)
    · walk_at "st"
      refine (take_ok (n := 3) hp4 (by omega) (by omega) (by omega)).mono ?_
      rintro _ p5 ⟨n2, rfl, hn2, hp5⟩
      walk_at "st"
      refine idx2 (fun _ => ?_) (fun _ => ?_)
      · exact ⟨rfl, _, _, rfl, hp5.le (by omega), by decide, by decide⟩
      · exact ⟨rfl, _, _, rfl, hp5.le (by omega), by decide, by decide⟩
    · walk_at "st"
      exact ⟨rfl, _, _, rfl, hp4.le (by omega), by decide, by decide⟩
  refine w_seq (hlift.mono ?_)
  rintro _ _ ⟨rfl, p5, L, rfl, hp5, hL⟩
  walk_at "nx"
  walk_at "st"
  refine w_forM (fun _ i e => ∃ (p : D) (rooms rows : List D) (x6 x7 x8 x9 x10 x11 x12 : Option D), e = [some p, some (.bl g), some (.lst nums), some (.lst rooms), some (.lst rows), some (.int L), x6, x7, x8, x9, x10, x11, x12, none, none] ∧ Purse (k + 30 + 8 * i) p ∧ (∀ d ∈ rooms, Cls d) ∧ (∀ d ∈ rows, RowS d) ∧ rows.length ≤ 2 * i ∧ rooms.length ≤ 9) ?_
  walk_at "vc"
  refine ⟨⟨_, rooms, [], _, _, _, _, _, _, _, rfl, hp5, hrooms, (fun _ z => by cases z), Nat.le_refl _, by omega⟩, ?_, ?_⟩
  · rintro i d e hd ⟨p, rooms, rows, x6, x7, x8, x9, x10, x11, x12, rfl, hp, hrooms, hrows, hl, hr9⟩
    have hi : i < nums.length := (List.getElem?_eq_some_iff.mp hd).1
    obtain ⟨r, s, rfl, hr, hrs, hs⟩ := hnums d (List.mem_of_getElem? hd)
    walk_at "vc"
    refine o_neL0 (k := 1) (fun d hd => ?_) (by decide) ?_
    · obtain ⟨r, s, rfl, _⟩ := hrooms d hd
      exact PyOk.tup fun d hd => by
        rcases List.mem_cons.mp hd with rfl | hd
        · exact .int
        · rw [List.mem_singleton.mp hd]
          exact .int
    walk_at "vc"
    refine if_v (fun he => ?_) (fun he => ?_)
    · walk_at "vc"
      exact ⟨rfl, _, _, _, _, _, _, _, _, _, _, rfl, hp.le (by omega), hrooms, hrows, by omega, by omega⟩
    have hrl : 0 < rooms.length := by
      cases rooms with
      | nil => cases he
      | cons a b => exact Nat.succ_pos _
    walk_at "vc"
    refine (take_ok (n := 6) hp (by omega) (by omega) (by omega)).mono ?_
    rintro _ p1 ⟨y1, rfl, hy1, hp1⟩
    walk_at "vc"
    refine if_d (fun hg1 => ?_) (fun hg1 => ?_)
    rotate_left
    · walk_at "vc"
      exact ⟨rfl, _, _, _, _, _, _, _, _, _, _, rfl, hp1.le (by omega), hrooms, hrows, by omega, by omega⟩
    walk_at "vc"
    refine (take_ok hp1 (by omega) hrl (by omega)).mono ?_
    rintro _ p2 ⟨at', rfl, hat, hp2⟩
    walk_at "vc"
    obtain ⟨d0, hd0, hm0⟩ := getSome hat
    refine ⟨d0, hd0, by omega, ?_⟩
    obtain ⟨b, q, rfl, hb, hbq, hq⟩ := hrooms d0 hm0
    have hrooms2 : ∀ d ∈ rooms.eraseIdx at', Cls d := fun d hd => hrooms d (List.mem_of_mem_eraseIdx hd)
    walk_at "vc"
    have hre : (rooms.eraseIdx at').length ≤ 9 := Nat.le_trans (List.length_eraseIdx_le ..) hr9
    generalize rooms.eraseIdx at' = rooms2 at hrooms2 hre ⊢
    refine (take_ok (n := 3) hp2 (by omega) (by omega) (by omega)).mono ?_
    rintro _ p3 ⟨late, rfl, hlate, hp3⟩
    walk_at "vc"
    refine (take_ok (n := 3) hp3 (by omega) (by omega) (by omega)).mono ?_
    rintro _ p4 ⟨high, rfl, hhigh, hp4⟩
    walk_at "st"
    walk_at "nx"
    have hwide : Wp (setS 12 (bin2 idxD (lstE (consA (cst (.int 1)) (consA (bin2 powD (cst (.int 10)) (cst (.int 20))) nilA))) (callD intD (consA (andV (vr 1) (bin2 eqD (calI F__law_take 0 (consA (cst (.int 4)) nilA)) (cst (.int 0)))) nilA)))) [some p4, some (.bl g), some (.lst nums), some (.lst rooms2), some (.lst rows), some (.int L), some (.int r), some (.int s), some (.int b), some (.int q), some (.int late), some (.int high), x12, none, none] fun fl e1 => fl = .nx ∧ ∃ (p5 : D) (W : Int), e1 = [some p5, some (.bl g), some (.lst nums), some (.lst rooms2), some (.lst rows), some (.int L), some (.int r), some (.int s), some (.int b), some (.int q), some (.int late), some (.int high), some (.int W), none, none] ∧ Purse (k + 30 + 8 * i + 5) p5 ∧ 0 ≤ W ∧ W ≤ 100000000000000000000 := by
      walk_at "st"
      refine if_v (fun hg => ?_) (fun hg => ?_)
      · walk_at "st"
        refine (take_ok (n := 4) hp4 (by omega) (by omega) (by omega)).mono ?_
        rintro _ p5 ⟨n2, rfl, hn2, hp5⟩
        walk_at "st"
        refine idx2 (fun _ => ?_) (fun _ => ?_)
        · exact ⟨rfl, _, _, rfl, hp5.le (by omega), by decide, by decide⟩
        · exact ⟨rfl, _, _, rfl, hp5.le (by omega), by decide, by decide⟩
      · walk_at "st"
        exact ⟨rfl, _, _, rfl, hp4.le (by omega), by decide, by decide⟩
    refine w_seq (hwide.mono ?_)
    rintro _ _ ⟨rfl, p5, W, rfl, hp5, hW⟩
    walk_at "nx"
    have ml1 := mul_le (X := 24) (Y := 2) (x := s) (y := (late : Int)) (by omega) hs (by omega) (by omega)
    have ml2 := mul_le (X := 24) (Y := 1000000000000000000000000000002) (x := q) (y := (high : Int) + L) (by omega) hq (by omega) (by omega)
    have ml3 := mul_le (X := 24) (Y := 100000000000000000000) (x := q) (y := W) (by omega) hq (by omega) (by omega)
    have hrow : RowS (.tup [.int (r + s * late), .int s, .int (b + q * (high + L)), .int (q * W)]) := ⟨_, _, _, _, rfl, by omega, by omega, by omega, by omega, by omega, by omega, by omega, by omega⟩
    walk_at "vc"
    refine ⟨lt_size (by omega), ?_⟩
    walk_at "vc"
    have hrows2 := app_ok hrows hrow
    have hlen2 : (rows ++ [D.tup [.int (r + s * late), .int s, .int (b + q * (high + L)), .int (q * W)]]).length ≤ 2 * i + 1 := by rw [List.length_append]; exact Nat.add_le_add_right hl 1
    generalize rows ++ [D.tup [.int (r + s * late), .int s, .int (b + q * (high + L)), .int (q * W)]] = rows2 at hrows2 hlen2 ⊢
    refine if_d (fun hl1 => ?_) (fun hl1 => ?_)
    rotate_left
    · walk_at "vc"
      exact ⟨rfl, _, _, _, _, _, _, _, _, _, _, rfl, hp5.le (by omega), hrooms2, hrows2, by omega, by omega⟩
    walk_at "vc"
    refine if_d (fun hl2 => ?_) (fun hl2 => ?_)
    rotate_left
    · walk_at "vc"
      exact ⟨rfl, _, _, _, _, _, _, _, _, _, _, rfl, hp5.le (by omega), hrooms2, hrows2, by omega, by omega⟩
    walk_at "vc"
    refine (take_ok (n := 2) hp5 (by omega) (by omega) (by omega)).mono ?_
    rintro _ p6 ⟨y6, rfl, hy6, hp6⟩
    walk_at "vc"
    refine if_e (fun hl3 => ?_) (fun hl3 => ?_)
    rotate_left
    · walk_at "vc"
      exact ⟨rfl, _, _, _, _, _, _, _, _, _, _, rfl, hp6.le (by omega), hrooms2, hrows2, by omega, by omega⟩
    walk_at "vc"
    refine (take_ok (n := high) hp6 (by omega) (by omega) (by omega)).mono ?_
    rintro _ p7 ⟨y7, rfl, hy7, hp7⟩
    have ml4 := mul_le (X := 24) (Y := 1) (x := s) (y := (late : Int) - 1) (by omega) hs (by omega) (by omega)
    have ml5 := mul_le (X := 24) (Y := 2) (x := q) (y := (high : Int) - 1 - y7) (by omega) hq (by omega) (by omega)
    have hrow3 : RowS (.tup [.int (r + s * (late - 1)), .int 0, .int (b + q * (high - 1 - y7)), .int 0]) := ⟨_, _, _, _, rfl, by omega, by omega, by omega, by omega, by omega, by omega, by omega, by omega⟩
    walk_at "vc"
    refine ⟨lt_size (by omega), rfl, _, _, _, _, _, _, _, _, _, _, rfl, hp7.le (by omega), hrooms2, app_ok hrows2 hrow3, by rw [List.length_append]; simp only [List.length_cons, List.length_nil]; omega, by omega⟩
  · rintro e ⟨p, rooms, rows, x6, x7, x8, x9, x10, x11, x12, rfl, hp, hrooms, hrows, hl, hr9⟩
    walk_at "vc"
    refine w_forM (fun _ i e => ∃ (p : D) (fs : List D) (x14 : Option D), e = [some p, some (.bl g), some (.lst nums), some (.lst rooms), some (.lst rows), some (.int L), x6, x7, x8, x9, x10, x11, x12, some (.lst fs), x14] ∧ Purse (k + 30 + 8 * nums.length + i) p ∧ (∀ d ∈ fs, RowS d) ∧ fs.length ≤ i) ?_
    walk_at "vc"
    refine ⟨⟨_, [], _, rfl, hp, (fun _ z => by cases z), Nat.le_refl _⟩, ?_, ?_⟩
    · rintro i d e hd ⟨p, fs, x14, rfl, hp, hfs, hlf⟩
      have hi : i < rows.length := (List.getElem?_eq_some_iff.mp hd).1
      have hrow := hrows d (List.mem_of_getElem? hd)
      walk_at "vc"
      refine (take_ok (n := fs.length + 1) hp (by omega) (by omega) (by omega)).mono ?_
      rintro _ p6 ⟨y6, rfl, hy6, hp6⟩
      walk_at "vc"
      refine ⟨by omega, lt_size (by omega), rfl, _, _, _, rfl, hp6, ?_, ?_⟩
      · intro x hx
        rcases List.mem_append.mp hx with hx | hx
        · rcases List.mem_append.mp hx with hx | hx
          · exact hfs x (List.mem_of_mem_take hx)
          · rw [List.mem_singleton.mp hx]
            exact hrow
        · exact hfs x (List.mem_of_mem_drop hx)
      · rw [List.length_append, List.length_append, List.length_take, List.length_drop]
        simp only [List.length_cons, List.length_nil]
        omega
    · rintro e ⟨p, fs, x14, rfl, hp, hfs, hlf⟩
      walk_at "vc"
      exact ⟨fs, rfl, hfs, by omega, hp.le (by omega)⟩
end Gk69

namespace Gk69
open PySem PySem.Spec PyProof.Rows L2 Dn
/-! ### data that is small -/
def smallB (n : Nat) : Nat → D → Bool
  | _, .non => true
  | _, .bl _ => true
  | _, .int i => decide (i.natAbs ≤ 1000000000000000000000000000000000000000000000 + 2 * n)
  | _, .str z => z.cps.toList.all (fun c => decide (c < 128)) && decide (z.length ≤ 100 + n)
  | k + 1, .tup ds => decide (ds.length ≤ 100 + n) && ds.all (smallB n k)
  | k + 1, .lst ds => decide (ds.length ≤ 100 + n) && ds.all (smallB n k)
  | _, .dct _ _ => true
  | _, _ => false
section
variable {n n' k k' : Nat}
theorem small_int {i : Int} : smallB n k (.int i) = true ↔ i.natAbs ≤ 1000000000000000000000000000000000000000000000 + 2 * n := by
  cases k <;> exact decide_eq_true_iff
theorem small_str {z : Str} : smallB n k (.str z) = true ↔ Asc z ∧ z.length ≤ 100 + n := by
  have e : smallB n k (.str z) = (z.cps.toList.all (fun c => decide (c < 128)) && decide (z.length ≤ 100 + n)) := by cases k <;> rfl
  rw [e, Bool.and_eq_true, List.all_eq_true, decide_eq_true_iff]
  exact and_congr_left' (forall_congr' fun c => imp_congr_right fun _ => decide_eq_true_iff)
theorem small_tup {ds : List D} : smallB n (k + 1) (.tup ds) = true ↔ ds.length ≤ 100 + n ∧ ∀ d ∈ ds, smallB n k d = true := by simp [smallB]
theorem small_lst {ds : List D} : smallB n (k + 1) (.lst ds) = true ↔ ds.length ≤ 100 + n ∧ ∀ d ∈ ds, smallB n k d = true := by simp [smallB]
theorem small_non : smallB n k .non = true := by cases k <;> rfl
theorem small_bl {b : Bool} : smallB n k (.bl b) = true := by cases k <;> rfl
theorem small_dct {ks ds} : smallB n k (.dct ks ds) = true := by cases k <;> rfl
theorem small_mono (hn : n ≤ n') : ∀ {k k' : Nat} {d : D}, k ≤ k' → smallB n k d = true → smallB n' k' d = true
  | k, k', .non, _, _ => small_non
  | k, k', .bl b, _, _ => small_bl
  | k, k', .int i, _, h => small_int.mpr (by have := small_int.mp h; omega)
  | k, k', .str z, _, h => small_str.mpr ⟨(small_str.mp h).1, by have := (small_str.mp h).2; omega⟩
  | k, k', .dct _ _, _, _ => small_dct
  | 0, _, .tup ds, _, h => by cases h
  | 0, _, .lst ds, _, h => by cases h
  | k + 1, 0, .tup ds, hk, h => by omega
  | k + 1, 0, .lst ds, hk, h => by omega
  | k + 1, k' + 1, .tup ds, hk, h => small_tup.mpr ⟨by have := (small_tup.mp h).1; omega, fun d hd => small_mono hn (by omega) ((small_tup.mp h).2 d hd)⟩
  | k + 1, k' + 1, .lst ds, hk, h => small_lst.mpr ⟨by have := (small_lst.mp h).1; omega, fun d hd => small_mono hn (by omega) ((small_lst.mp h).2 d hd)⟩
  | 0, _, .fn _, _, h => by cases h
  | k + 1, _, .fn _, _, h => by cases h
  | 0, _, .scr _, _, h => by cases h
  | k + 1, _, .scr _, _, h => by cases h
end
/-! ### slices -/
theorem cut_both {α : Type} (xs : List α) (a b : Nat) : cutG xs (some (a : Int)) (some (b : Int)) = (xs.drop (min a xs.length)).take (min b xs.length - min a xs.length) := by
  unfold cutG
  rw [HT.sIx_nat, HT.sIx_nat]
theorem cut_mem {α : Type} {xs : List α} {lo hi : Option Int} {x : α} (h : x ∈ cutG xs lo hi) : x ∈ xs := List.mem_of_mem_drop (List.mem_of_mem_take h)
theorem o_idxM {ds : List D} {x : Nat} {Q : D → Prop} (hx : x < ds.length) (h : ∀ d ∈ ds, Q d) : Ok (idxD (.lst ds) (.int x)) Q := by
  obtain ⟨d, h1, h2⟩ := getSome hx
  exact o_idxL h1 (h d h2)
theorem o_idxMT {ds : List D} {x : Nat} {Q : D → Prop} (hx : x < ds.length) (h : ∀ d ∈ ds, Q d) : Ok (idxD (.tup ds) (.int x)) Q := by
  obtain ⟨d, h1, h2⟩ := getSome hx
  exact o_idxT h1 (h d h2)
theorem o_neT0 {ds : List D} {Q : D → Prop} (h : Q (.bl (!ds.isEmpty))) : Ok (neT0 (.tup ds) (.tup [])) Q := ⟨_, rfl, h⟩
theorem o_listT {ds : List D} {Q : D → Prop} (h : Q (.lst ds)) : Ok (listD [.tup ds]) Q := ⟨_, rfl, h⟩
theorem o_revT {ds : List D} {Q : D → Prop} (h : Q (.tup ds.reverse)) : Ok (revD (.tup ds)) Q := ⟨_, rfl, h⟩
theorem o_revS {z : Str} {Q : D → Prop} (hz : z.length ≤ sizeLine) (h : Q (.str (revS z))) : Ok (revD (.str z)) Q := ⟨_, if_pos hz, h⟩
theorem o_sliS {z : Str} {lo hi : Option Int} {Q : D → Prop} (hz : z.length ≤ sizeLine) (h : Q (.str (cutS z lo hi))) : Ok (sliR lo hi (.str z)) Q := ⟨_, if_pos hz, h⟩
theorem o_upS {z : Str} {Q : D → Prop} (hz : z.length ≤ 1000) (h : Q (.str (Txt.upper z))) : Ok (upD (.str z)) Q := ⟨_, if_pos (Nat.le_trans hz (by decide)), h⟩
theorem Asc.cut {z : Str} {lo hi : Option Int} (h : Asc z) : Asc (cutS z lo hi) := fun c hc => by
  unfold cutS at hc
  rw [List.toList_toArray] at hc
  exact h c (List.mem_of_mem_drop (List.mem_of_mem_take hc))
theorem all5 {P : D → Prop} {a b c d e : D} (h1 : P a) (h2 : P b) (h3 : P c) (h4 : P d) (h5 : P e) : ∀ x ∈ [a, b, c, d, e], P x := by simp [h1, h2, h3, h4, h5]
theorem all4 {P : D → Prop} {a b c d : D} (h1 : P a) (h2 : P b) (h3 : P c) (h4 : P d) : ∀ x ∈ [a, b, c, d], P x := by simp [h1, h2, h3, h4]
theorem all3 {P : D → Prop} {a b c : D} (h1 : P a) (h2 : P b) (h3 : P c) : ∀ x ∈ [a, b, c], P x := by simp [h1, h2, h3]
theorem odd_ok {k : Nat} {p : D} (hp : Purse k p) (hk : k ≤ 1000000000) : OkI (F__law_odd p []) fun r p' => smallB 0 2 r = true ∧ Purse (k + 1) p' := by
  unfold F__law_odd
  refine w_runI (e0 := [some p, none]) rfl ?_
  unfold m__law_odd
  walk_at "vc"
  refine o_addL (Nat.le_of_ble_eq_true rfl) ?_
  walk_at "vc"
  refine (take_ok (n := 28) hp (by omega) (by omega) (by omega)).mono ?_
  rintro _ p6 ⟨y6, rfl, hy6, hp6⟩
  walk_at "vc"
  refine o_idxM hy6 fun d hd => ?_
  walk_at "vc"
  refine ⟨?_, hp6⟩
  revert d hd
  rw [← List.all_eq_true]
  decide +kernel
end Gk69

namespace Gk69
open PySem PySem.Spec PyProof.Rows L2 Dn
theorem sz1 {n : Nat} (h : n ≤ 1000) : n ≤ sizeLine := le_size h
/-- a list of small data in a tuple's place -/
theorem small_sub {n k : Nat} {ds es : List D} (h : ∀ d ∈ ds, smallB n k d = true) (hl : es.length ≤ 100 + (n + 1)) (he : ∀ d ∈ es, d ∈ ds ∨ smallB (n + 1) (k + 4) d = true) : smallB (n + 1) (k + 1 + 4) (.tup es) = true := by
  refine small_tup.mpr ⟨hl, fun d hd => ?_⟩
  rcases he d hd with h1 | h1
  · exact small_mono (Nat.le_succ n) (by omega) (h d h1)
  · exact h1
theorem asc_a : Asc "a" := by
  unfold Asc
  decide
theorem bent_ok : ∀ (f k n m : Nat) (p d : D), Purse m p → m + 4 * f ≤ 1000000000 → k < f → n ≤ 100 → smallB n k d = true → OkI (F__law_bent f p [d]) fun r p' => smallB (n + 1) (k + 4) r = true ∧ Purse (m + 4 * (k + 1)) p'
  | 0, k, _, _, _, _, _, _, hk, _, _ => by omega
  | f + 1, k, n, m, p, d, hp, hm, hk, hn, hd => by
    have hodd : ∀ {r : D}, smallB 0 2 r = true → smallB (n + 1) (k + 4) r = true := fun h => small_mono (by omega) (by omega) h
    have hold : ∀ {r : D}, smallB n k r = true → smallB (n + 1) (k + 4) r = true := fun h => small_mono (by omega) (by omega) h
    refine w_runI (e0 := [some p, some d, none, none]) rfl ?_
    unfold m__law_bent
    match d, hd with
    | .fn _, hd => cases k <;> cases hd
    | .scr _, hd => cases k <;> cases hd
    | .non, hd =>
      walk_at "vc"
      refine (odd_ok hp (by omega)).mono ?_
      rintro r p1 ⟨h1, hp1⟩
      walk_at "vc"
      exact ⟨hodd h1, hp1.le (by omega)⟩
    | .dct _ _, hd =>
      walk_at "vc"
      refine (odd_ok hp (by omega)).mono ?_
      rintro r p1 ⟨h1, hp1⟩
      walk_at "vc"
      exact ⟨hodd h1, hp1.le (by omega)⟩
    | .lst _, hd =>
      walk_at "vc"
      refine (odd_ok hp (by omega)).mono ?_
      rintro r p1 ⟨h1, hp1⟩
      walk_at "vc"
      exact ⟨hodd h1, hp1.le (by omega)⟩
    | .bl b, hd =>
      walk_at "vc"
      refine (odd_ok hp (by omega)).mono ?_
      rintro r p1 ⟨h1, hp1⟩
      walk_at "vc"
      refine (take_ok (n := 3) hp1 (by omega) (by omega) (by omega)).mono ?_
      rintro _ p2 ⟨y, rfl, hy, hp2⟩
      walk_at "vc"
      refine o_idxM hy (all3 ?_ ?_ ?_)
      · walk_at "vc"
        exact ⟨small_bl, hp2.le (by omega)⟩
      · walk_at "vc"
        exact ⟨small_int.mpr (by split <;> omega), hp2.le (by omega)⟩
      · walk_at "vc"
        exact ⟨hodd h1, hp2.le (by omega)⟩
    | .int i, hd =>
      have hi := small_int.mp hd
      walk_at "vc"
      refine (odd_ok hp (by omega)).mono ?_
      rintro r p1 ⟨h1, hp1⟩
      walk_at "vc"
      refine (take_ok (n := 5) hp1 (by omega) (by omega) (by omega)).mono ?_
      rintro _ p2 ⟨y, rfl, hy, hp2⟩
      walk_at "vc"
      refine o_idxM hy (all5 ?_ ?_ ?_ ?_ ?_)
      · walk_at "vc"
        exact ⟨small_int.mpr (by omega), hp2.le (by omega)⟩
      · walk_at "vc"
        exact ⟨small_int.mpr (by omega), hp2.le (by omega)⟩
      · walk_at "vc"
        exact ⟨small_bl, hp2.le (by omega)⟩
      · walk_at "vc"
        exact ⟨hodd h1, hp2.le (by omega)⟩
      · walk_at "vc"
        exact ⟨small_int.mpr (by omega), hp2.le (by omega)⟩
    | .str z, hd =>
      have hi := small_str.mp hd
      walk_at "vc"
      refine o_addS (sz1 (by show z.length + 1 ≤ 1000; omega)) ?_
      walk_at "vc"
      refine o_sliS (sz1 (by omega)) ?_
      walk_at "vc"
      refine o_revS (sz1 (by omega)) ?_
      walk_at "vc"
      refine o_upS (by omega) ?_
      walk_at "vc"
      refine (odd_ok hp (by omega)).mono ?_
      rintro r p1 ⟨h1, hp1⟩
      walk_at "vc"
      refine (take_ok (n := 5) hp1 (by omega) (by omega) (by omega)).mono ?_
      rintro _ p2 ⟨y, rfl, hy, hp2⟩
      walk_at "vc"
      refine o_idxM hy (all5 ?_ ?_ ?_ ?_ ?_)
      · walk_at "vc"
        exact ⟨small_str.mpr ⟨hi.1.app asc_a, by rw [len_app]; exact Nat.add_le_add_right hi.2 1⟩, hp2.le (by omega)⟩
      · walk_at "vc"
        exact ⟨small_str.mpr ⟨Gk69.Asc.cut hi.1, by have := cutS_length z (some 1) none; omega⟩, hp2.le (by omega)⟩
      · walk_at "vc"
        exact ⟨small_str.mpr ⟨hi.1.rev, by rw [len_rev]; omega⟩, hp2.le (by omega)⟩
      · walk_at "vc"
        exact ⟨small_str.mpr ⟨hi.1.upper, by rw [len_upper hi.1]; omega⟩, hp2.le (by omega)⟩
      · walk_at "vc"
        exact ⟨hodd h1, hp2.le (by omega)⟩
    | .tup ds, hd =>
      obtain ⟨k, rfl⟩ : ∃ j, k = j + 1 := by
        cases k with
        | zero => cases hd
        | succ k => exact ⟨k, rfl⟩
      obtain ⟨hl, hds⟩ := small_tup.mp hd
      refine w_seq (Wp.mono (P := fun fl e1 => (fl = .nx ∧ ∃ p1 : D, e1 = [some p1, some (.tup ds), none, none] ∧ Purse (m + 1) p1) ∨ ∃ r : D, fl = .rt r ∧ GetC 0 e1 fun p1 => smallB (n + 1) (k + 1 + 4) r = true ∧ Purse (m + 4 * (k + 1 + 1)) p1) ?_ ?_)
      rotate_left
      · rintro _ _ (⟨rfl, p1, rfl, hp1⟩ | ⟨r, rfl, h⟩)
        rotate_left
        · exact h
        walk_at "vc"
        refine o_listT ?_
        walk_at "vc"
        refine (odd_ok hp1 (by omega)).mono ?_
        rintro r2 p2 ⟨h2, hp2⟩
        walk_at "vc"
        refine o_addT (sz1 (by simp only [List.length_cons, List.length_nil]; omega)) ?_
        walk_at "vc"
        refine o_revT ?_
        walk_at "vc"
        refine (odd_ok hp2 (by omega)).mono ?_
        rintro r3 p3 ⟨h3, hp3⟩
        walk_at "vc"
        refine (take_ok (n := 4) hp3 (by omega) (by omega) (by omega)).mono ?_
        rintro _ p4 ⟨y, rfl, hy, hp4⟩
        walk_at "vc"
        have hp5 : Purse (m + 4 * (k + 1 + 1)) p4 := hp4.le (by omega)
        refine o_idxM hy (all4 ?_ ?_ ?_ ?_)
        · walk_at "vc"
          exact ⟨small_lst.mpr ⟨by omega, fun d hd => small_mono (by omega) (by omega) (hds d hd)⟩, hp5⟩
        · walk_at "vc"
          refine ⟨small_sub hds (by simp only [List.length_append, List.length_cons, List.length_nil]; omega) fun d hd => ?_, hp5⟩
          rcases List.mem_append.mp hd with hd | hd
          · exact .inl hd
          · rw [List.mem_singleton.mp hd]
            exact .inr (small_mono (by omega) (by omega) h2)
        · walk_at "vc"
          exact ⟨small_sub hds (by rw [List.length_reverse]; omega) fun d hd => .inl (List.mem_reverse.mp hd), hp5⟩
        · walk_at "vc"
          exact ⟨hodd h3, hp5⟩
      · walk_at "vc"
        refine o_neT0 ?_
        walk_at "vc"
        refine if_v (fun he => ?_) (fun he => ?_)
        · walk_at "vc"
          exact .inl ⟨rfl, p, rfl, hp.le (by omega)⟩
        have hne : 0 < ds.length := by
          cases ds with
          | nil => cases he
          | cons a b => exact Nat.succ_pos _
        walk_at "vc"
        refine (take_ok (n := 5) hp (by omega) (by omega) (by omega)).mono ?_
        rintro _ p1 ⟨y, rfl, hy, hp1⟩
        walk_at "vc"
        refine if_d (fun hg => ?_) (fun hg => ?_)
        rotate_left
        · walk_at "vc"
          exact .inl ⟨rfl, p1, rfl, hp1⟩
        walk_at "vc"
        refine (take_ok hp1 (by omega) hne (by omega)).mono ?_
        rintro _ p2 ⟨at', rfl, hat, hp2⟩
        walk_at "vc"
        refine (take_ok (n := 9) hp2 (by omega) (by omega) (by omega)).mono ?_
        rintro _ p3 ⟨y3, rfl, hy3, hp3⟩
        have hp5 : Purse (m + 4 * (k + 1 + 1)) p3 := hp3.le (by omega)
        have c1 : ((at' : Int) + 1) = ((at' + 1 : Nat) : Int) := rfl
        have c2 : ((at' : Int) + 2) = ((at' + 2 : Nat) : Int) := rfl
        walk_at "vc"
        refine if_e (fun _ => ?_) (fun _ => ?_)
        · walk_at "vc"
          rw [c1, cut_take, cut_drop]
          have hz : (ds.take at' ++ ds.drop (at' + 1)).length ≤ 100 + n := by rw [List.length_append, List.length_take, List.length_drop]; omega
          refine o_addT (by rw [← List.length_append]; exact sz1 (by omega)) ?_
          walk_at "vc"
          refine .inr ⟨_, rfl, ?_⟩
          walk_at "vc"
          refine ⟨small_sub hds (by omega) fun d hd => ?_, hp5⟩
          rcases List.mem_append.mp hd with hd | hd
          · exact .inl (List.mem_of_mem_take hd)
          · exact .inl (List.mem_of_mem_drop hd)
        walk_at "vc"
        refine if_e (fun _ => ?_) (fun _ => ?_)
        · walk_at "vc"
          rw [c1, cut_take, cut_drop]
          have hz : (ds.take (at' + 1) ++ ds.drop at').length ≤ 100 + n + 1 := by rw [List.length_append, List.length_take, List.length_drop]; omega
          refine o_addT (by rw [← List.length_append]; exact sz1 (by omega)) ?_
          walk_at "vc"
          refine .inr ⟨_, rfl, ?_⟩
          walk_at "vc"
          refine ⟨small_sub hds (by omega) fun d hd => ?_, hp5⟩
          rcases List.mem_append.mp hd with hd | hd
          · exact .inl (List.mem_of_mem_take hd)
          · exact .inl (List.mem_of_mem_drop hd)
        walk_at "vc"
        refine if_e (fun _ => ?_) (fun _ => ?_)
        · walk_at "vc"
          refine o_revT ?_
          walk_at "vc"
          rw [c2, cut_take, cut_both]
          have hz : (ds.take at' ++ ((ds.drop (min at' ds.length)).take (min (at' + 2) ds.length - min at' ds.length)).reverse).length ≤ at' + 2 := by
            rw [List.length_append, List.length_take, List.length_reverse, List.length_take, List.length_drop]
            omega
          refine o_addT (by rw [← List.length_append]; exact sz1 (by omega)) ?_
          walk_at "vc"
          rw [c2, cut_drop]
          have hz2 : ((ds.take at' ++ ((ds.drop (min at' ds.length)).take (min (at' + 2) ds.length - min at' ds.length)).reverse) ++ ds.drop (at' + 2)).length ≤ 100 + n + 1 := by
            rw [List.length_append, List.length_append, List.length_take, List.length_reverse, List.length_take, List.length_drop, List.length_drop]
            omega
          refine o_addT (by rw [← List.length_append]; exact sz1 (by omega)) ?_
          walk_at "vc"
          refine .inr ⟨_, rfl, ?_⟩
          walk_at "vc"
          refine ⟨small_sub hds (by omega) fun d hd => ?_, hp5⟩
          rcases List.mem_append.mp hd with hd | hd
          · rcases List.mem_append.mp hd with hd | hd
            · exact .inl (List.mem_of_mem_take hd)
            · exact .inl (List.mem_of_mem_drop (List.mem_of_mem_take (List.mem_reverse.mp hd)))
          · exact .inl (List.mem_of_mem_drop hd)
        walk_at "vc"
        obtain ⟨d0, hd0, hm0⟩ := getSome hat
        refine o_idxT hd0 ?_
        walk_at "vc"
        refine (bent_ok f k n (m + 1 + 1 + 1) p3 d0 hp3 (by omega) (by omega) hn (hds d0 hm0)).mono ?_
        rintro r p4 ⟨hr, hp4⟩
        walk_at "vc"
        rw [cut_take]
        have hz : (ds.take at' ++ [r]).length ≤ at' + 1 := by rw [List.length_append, List.length_take]; simp only [List.length_cons, List.length_nil]; omega
        refine o_addT (by rw [← List.length_append]; exact sz1 (by omega)) ?_
        walk_at "vc"
        rw [c1, cut_drop]
        have hz2 : ((ds.take at' ++ [r]) ++ ds.drop (at' + 1)).length ≤ 100 + n + 1 := by rw [List.length_append, List.length_drop]; omega
        refine o_addT (by rw [← List.length_append]; exact sz1 (by omega)) ?_
        walk_at "vc"
        refine .inr ⟨_, rfl, ?_⟩
        walk_at "vc"
        refine ⟨small_sub hds (by omega) fun d hd => ?_, hp4.le (by omega)⟩
        rcases List.mem_append.mp hd with hd | hd
        · rcases List.mem_append.mp hd with hd | hd
          · exact .inl (List.mem_of_mem_take hd)
          · rw [List.mem_singleton.mp hd]
            exact .inr hr
        · exact .inl (List.mem_of_mem_drop hd)
end Gk69

namespace Gk69
open PySem PySem.Spec PyProof.Rows L2 Dn
/-! ### words -/
def wSingle : D := .str "single"
def wAhead : D := .str "ahead"
def wRest : D := .str "rest"
def Word (d : D) : Prop := d = wSingle ∨ d = wAhead ∨ d = wRest
def whyL (b p x : Int) : List D := if p = 0 then (if b = x then [] else [wSingle]) else (if x < b then [wAhead] else []) ++ (if (x - b) % p = 0 then [] else [wRest])
theorem o_mulB {x : D} {b : Bool} {Q : D → Prop} (h : Q (.lst (if b = true then [x] else []))) : Ok (mulD (.lst [x]) (.int (if b = true then 1 else 0))) Q := by
  cases b
  · exact ⟨_, rfl, h⟩
  · exact ⟨_, rfl, h⟩
theorem why_eq (a s b p x : Int) (hp : 0 ≤ p) : F__law_why [.tup [.int a, .int s, .int b, .int p], .int x] = .ok (.lst (whyL b p x)) := by
  refine o_out ?_
  unfold F__law_why
  refine w_runB (e0 := [some (.tup [.int a, .int s, .int b, .int p]), some (.int x)]) rfl ?_
  unfold m__law_why
  walk_at "vc"
  refine if_e (fun h0 => ?_) (fun h0 => ?_)
  · walk_at "vc"
    refine o_mulB ?_
    walk_at "vc"
    unfold whyL
    rw [if_pos h0]
    by_cases h1 : b = x
    · subst h1
      simp
    · simp [h1]
      rfl
  · walk_at "vc"
    refine o_mulB ?_
    walk_at "vc"
    refine o_mulB ?_
    walk_at "vc"
    refine o_addL ?_ ?_
    · refine Nat.le_trans (m := 2) ?_ (by decide)
      refine Nat.add_le_add (b := 1) (d := 1) ?_ ?_ <;> split <;> simp
    walk_at "vc"
    unfold whyL
    rw [if_neg h0]
    by_cases h1 : x < b <;> by_cases h2 : (x - b) % p = 0 <;> simp [h1, h2, wAhead, wRest]
theorem whyL_word {b p x : Int} : ∀ d ∈ whyL b p x, Word d := by
  intro d hd
  unfold whyL at hd
  unfold Word
  split at hd
  · split at hd <;> simp at hd
    exact .inl hd
  · split at hd <;> split at hd <;> simp at hd <;> simp [hd]
theorem whyL_len {b p x : Int} : (whyL b p x).length ≤ 2 := by
  unfold whyL
  split
  · split <;> simp
  · split <;> split <;> simp
theorem Word.small {n k : Nat} {d : D} (h : Word d) : smallB n k d = true := by
  rcases h with rfl | rfl | rfl
  · exact small_str.mpr ⟨by unfold Asc; decide, by show 6 ≤ _; omega⟩
  · exact small_str.mpr ⟨by unfold Asc; decide, by show 5 ≤ _; omega⟩
  · exact small_str.mpr ⟨by unfold Asc; decide, by show 4 ≤ _; omega⟩
theorem Word.py {k : Nat} {d : D} (h : Word d) : PyOk k d := by
  rcases h with rfl | rfl | rfl
  · exact PyOk.str (by unfold Asc; decide)
  · exact PyOk.str (by unfold Asc; decide)
  · exact PyOk.str (by unfold Asc; decide)
end Gk69

namespace Gk69
open PySem PySem.Spec PyProof.Rows L2 Dn
def Parts (n k : Nat) (ds : List D) : Prop := ∃ (w : Str) (rest : List D), ds = .str w :: rest ∧ ((w = "lies" ∧ rest.length = 3) ∨ (w = "free" ∧ rest.length = 2)) ∧ ∀ d ∈ rest, smallB n k d = true
theorem Parts.len {n k : Nat} {ds : List D} (h : Parts n k ds) : 0 < ds.length ∧ ds.length ≤ 4 := by
  obtain ⟨w, rest, rfl, h1 | h1, h2⟩ := h
  · rw [List.length_cons, h1.2]
    decide
  · rw [List.length_cons, h1.2]
    decide
theorem spoilt_ok {m : Nat} {p sh : D} {ds : List D} (hp : Purse m p) (hm : m ≤ 100000000) (hs : Parts 0 3 ds) (hh : smallB 0 3 sh = true) :
    OkI (F__law_spoilt p [.tup ds, sh]) fun r p' => ∃ (es : List D) (sh' : D), r = .tup [.tup es, sh'] ∧ Parts 2 11 es ∧ smallB 2 11 sh' = true ∧ Purse (m + 200) p' := by
  unfold F__law_spoilt
  refine w_runI (e0 := [some p, some (.tup ds), some sh, none, none]) rfl ?_
  unfold m__law_spoilt
  walk_at "vc"
  refine w_forM (fun _ i e => ∃ (p : D) (es : List D) (sh : D) (x3 x4 : Option D), e = [some p, some (.tup es), some sh, x3, x4] ∧ Parts i (3 + 4 * i) es ∧ smallB i (3 + 4 * i) sh = true ∧ Purse (m + 1 + 50 * i) p) ?_
  walk_at "vc"
  refine (take_ok (n := 2) hp (by omega) (by omega) (by omega)).mono ?_
  rintro _ p1 ⟨y, rfl, hy, hp1⟩
  walk_at "vc"
  refine nat_i (by omega) fun t ht => ?_
  refine ⟨by omega, ⟨p1, ds, sh, _, _, rfl, hs, hh, hp1⟩, ?_, ?_⟩
  · rintro i d e hd ⟨p, es, sh, x3, x4, rfl, hes, hsh, hp⟩
    obtain ⟨rfl, hi⟩ := rngL_mem hd
    walk_at "vc"
    refine (take_ok hp (by omega) hes.len.1 (by have := hes.len.2; omega)).mono ?_
    rintro _ p2 ⟨at', rfl, hat, hp2⟩
    walk_at "vc"
    refine if_e (fun h0 => ?_) (fun h0 => ?_)
    · walk_at "vc"
      refine (bent_ok 12 (3 + 4 * i) i _ p2 sh hp2 (by omega) (by omega) (by omega) hsh).mono ?_
      rintro r p3 ⟨hr, hp3⟩
      walk_at "vc"
      obtain ⟨w, rest, rfl, hw, hrest⟩ := hes
      exact ⟨rfl, _, _, _, _, _, rfl, ⟨w, rest, rfl, hw, fun d hd => small_mono (by omega) (by omega) (hrest d hd)⟩, small_mono (by omega) (by omega) hr, hp3.le (by omega)⟩
    · obtain ⟨w, rest, rfl, hw, hrest⟩ := hes
      obtain ⟨j, rfl⟩ : ∃ j, at' = j + 1 := ⟨at' - 1, by omega⟩
      have hj : j < rest.length := by simp only [List.length_cons] at hat; omega
      obtain ⟨d0, hd0, hm0⟩ := getSome hj
      have hl3 : rest.length ≤ 3 := by rcases hw with hw | hw <;> omega
      walk_at "vc"
      refine o_idxT (d := d0) (by rw [List.getElem?_cons_succ]; exact hd0) ?_
      walk_at "vc"
      refine (bent_ok 12 (3 + 4 * i) i _ p2 d0 hp2 (by omega) (by omega) (by omega) (hrest d0 hm0)).mono ?_
      rintro r p3 ⟨hr, hp3⟩
      walk_at "vc"
      rw [cut_take]
      refine o_addT (by rw [List.length_take]; simp only [List.length_cons, List.length_nil]; exact sz1 (by omega)) ?_
      walk_at "vc"
      rw [show (((j + 1 : Nat) : Int) + 1) = ((j + 1 + 1 : Nat) : Int) from rfl, cut_drop]
      refine o_addT (by rw [List.length_append, List.length_take, List.length_drop]; simp only [List.length_cons, List.length_nil]; exact sz1 (by omega)) ?_
      walk_at "vc"
      refine ⟨rfl, _, _, _, _, _, rfl, ⟨w, rest.take j ++ [r] ++ rest.drop (j + 1), rfl, ?_, ?_⟩, small_mono (by omega) (by omega) hsh, hp3.le (by omega)⟩
      · have : (rest.take j ++ [r] ++ rest.drop (j + 1)).length = rest.length := by
          rw [List.length_append, List.length_append, List.length_take, List.length_drop]
          simp only [List.length_cons, List.length_nil]
          omega
        rw [this]
        exact hw
      · intro d hd
        rcases List.mem_append.mp hd with hd | hd
        · rcases List.mem_append.mp hd with hd | hd
          · exact small_mono (by omega) (by omega) (hrest d (List.mem_of_mem_take hd))
          · rw [List.mem_singleton.mp hd]
            exact small_mono (by omega) (by omega) hr
        · exact small_mono (by omega) (by omega) (hrest d (List.mem_of_mem_drop hd))
  · rintro e ⟨p, es, sh, x3, x4, rfl, ⟨w, rest, rfl, hw, hrest⟩, hsh, hp⟩
    rw [rngL_len] at hrest hsh hp
    walk_at "vc"
    exact ⟨_, _, rfl, ⟨w, rest, rfl, hw, fun d hd => small_mono (by omega) (by omega) (hrest d hd)⟩, small_mono (by omega) (by omega) hsh, hp.le (by omega)⟩
end Gk69

namespace Gk69
open PySem PySem.Spec PyProof.Rows L2 Dn
/-- a claim with its paper -/
def Claim (c : D) : Prop := ∃ (ds : List D) (sh : D), c = .tup [.tup ds, sh] ∧ Parts 0 3 ds ∧ smallB 0 3 sh = true
def Spot (d : D) : Prop := ∃ x : Int, d = .int x ∧ 0 ≤ x ∧ x ≤ 10000000000000000000000000000000000000000000
theorem RowS.small {k : Nat} {d : D} (h : RowS d) : smallB 0 (k + 1) d = true := by
  obtain ⟨a, s, b, p, rfl, h⟩ := h
  refine small_tup.mpr ⟨by show 4 ≤ 100; decide, all4 ?_ ?_ ?_ ?_⟩ <;> exact small_int.mpr (by omega)
theorem rows_small {ds : List D} (h : ∀ d ∈ ds, RowS d) (hl : ds.length ≤ 100) : smallB 0 3 (.tup ds) = true := small_tup.mpr ⟨by omega, fun d hd => (h d hd).small⟩
theorem small_ints {a b : Int} {k : Nat} (h1 : a.natAbs ≤ 1000000000000000000000000000000000000000000000) (h2 : b.natAbs ≤ 1000000000000000000000000000000000000000000000) : smallB 0 (k + 1) (.tup [.int a, .int b]) = true :=
  small_tup.mpr ⟨by show 2 ≤ 100; decide, fun d hd => by
    rcases List.mem_cons.mp hd with rfl | hd
    · exact small_int.mpr (by omega)
    · rw [List.mem_singleton.mp hd]
      exact small_int.mpr (by omega)⟩
theorem claim_lies {ds : List D} {f x : Int} {sh : D} (h : ∀ d ∈ ds, RowS d) (hl : ds.length ≤ 18) (hf : f.natAbs ≤ 1000000000000000000000000000000000000000000000) (hx : x.natAbs ≤ 1000000000000000000000000000000000000000000000) (hs : smallB 0 3 sh = true) : Claim (.tup [.tup [.str "lies", .tup ds, .int f, .int x], sh]) :=
  ⟨_, _, rfl, ⟨_, _, rfl, .inl ⟨rfl, rfl⟩, all3 (rows_small h (by omega)) (small_int.mpr (by omega)) (small_int.mpr (by omega))⟩, hs⟩
theorem claim_free {ds ws : List D} {x : Int} (h : ∀ d ∈ ds, RowS d) (hl : ds.length ≤ 18) (hx : x.natAbs ≤ 1000000000000000000000000000000000000000000000) (hw : ∀ d ∈ ws, Word d) (hz : ws.length ≤ 18) : Claim (.tup [.tup [.str "free", .tup ds, .int x], .tup ws]) :=
  ⟨_, _, rfl, ⟨_, _, rfl, .inr ⟨rfl, rfl⟩, fun d hd => by
    rcases List.mem_cons.mp hd with rfl | hd
    · exact rows_small h (by omega)
    · rw [List.mem_singleton.mp hd]
      exact small_int.mpr (by omega)⟩, small_tup.mpr ⟨by omega, fun d hd => (hw d hd).small⟩⟩
theorem o_max {i j : Int} {Q : D → Prop} (h : Q (.int (max i j))) : Ok (maxD [.int i, .int j]) Q := by
  refine ⟨_, ?_, h⟩
  show R.ok (D.int (if j > i then j else i)) = _
  congr 2
  split <;> omega
theorem o_neg {i : Int} {Q : D → Prop} (h : Q (.int (-i))) : Ok (negD (.int i)) Q := ⟨_, rfl, h⟩
theorem o_idx0 {ds : List D} {Q : D → Prop} (h0 : ds ≠ []) (h : ∀ d ∈ ds, Q d) : Ok (idxD (.lst ds) (.int 0)) Q := o_idxM (x := 0) (by cases ds with | nil => exact absurd rfl h0 | cons a b => exact Nat.succ_pos _) h
theorem o_idx1 {ds : List D} {Q : D → Prop} (h0 : ds ≠ []) (h : ∀ d ∈ ds, Q d) : Ok (idxD (.lst ds) (.int (-1))) Q := by
  have hl : 0 < ds.length := by cases ds with | nil => exact absurd rfl h0 | cons a b => exact Nat.succ_pos _
  obtain ⟨d, h1, h2⟩ := getSome (ds := ds) (k := ds.length - 1) (by omega)
  have hx : ixN ds.length (-1) = some (ds.length - 1) := by
    unfold ixN
    simp
    omega
  exact ⟨d, by simp [idxD, atI, hx, h1], h d h2⟩
theorem spots_ok {ss : List D} {x : Int} (h : ∀ d ∈ ss, Spot d) (hx : 0 ≤ x ∧ x < 10000000000000000000000000000000000000000000) : ∀ d ∈ ss ++ [.int x, .int (x + 1), .int (max 0 (x - 1))], Spot d := fun d hd => by
  rcases List.mem_append.mp hd with hd | hd
  · exact h d hd
  · exact all3 (P := Spot) ⟨_, rfl, by omega, by omega⟩ ⟨_, rfl, by omega, by omega⟩ ⟨_, rfl, by omega, by omega⟩ d hd
theorem claims_ok {k : Nat} {p : D} {ds : List D} (hp : Purse k p) (hk : k ≤ 100000000) (hr : ∀ d ∈ ds, RowS d) (hl : ds.length ≤ 18) :
    OkI (F__law_claims p [.tup ds]) fun r p' => ∃ cs : List D, r = .lst cs ∧ (∀ c ∈ cs, Claim c) ∧ cs.length ≤ 1000 ∧ Purse (k + 1000) p' := by
  unfold F__law_claims
  refine w_runI (e0 := [some p, some (.tup ds), none, none, none, none, none, none, none, none, none, none]) rfl ?_
  unfold m__law_claims
  walk_at "vc"
  refine (take_ok (n := 60) hp (by omega) (by omega) (by omega)).mono ?_
  rintro _ p1 ⟨y1, rfl, hy1, hp1⟩
  walk_at "vc"
  refine (take_ok (n := 60) hp1 (by omega) (by omega) (by omega)).mono ?_
  rintro _ p2 ⟨y2, rfl, hy2, hp2⟩
  walk_at "vc"
  refine o_addL (Nat.le_of_ble_eq_true rfl) ?_
  walk_at "vc"
  refine w_forM (fun _ i e => ∃ (p : D) (cs ss : List D) (x4 x5 x6 x7 : Option D), e = [some p, some (.tup ds), some (.lst cs), some (.lst ss), x4, x5, x6, x7, none, none, none, none] ∧ Purse (k + 2 + 3 * i) p ∧ (∀ c ∈ cs, Claim c) ∧ cs.length ≤ 5 * i ∧ (∀ x ∈ ss, Spot x) ∧ ss.length ≤ 8 + 3 * i) ?_
  walk_at "vc"
  refine ⟨by omega, ⟨_, [], _, _, _, _, _, rfl, hp2, (fun _ z => by cases z), Nat.le_refl _, ?_, Nat.le_refl _⟩, ?_, ?_⟩
  · intro x hx
    rcases List.mem_append.mp hx with hx | hx
    · obtain ⟨j, hj⟩ := List.getElem?_of_mem hx
      obtain ⟨rfl, hj2⟩ := rngL_mem hj
      exact ⟨_, rfl, by omega, by omega⟩
    · rcases List.mem_cons.mp hx with rfl | hx
      · exact ⟨_, rfl, by omega, by omega⟩
      · rw [List.mem_singleton.mp hx]
        refine ⟨_, rfl, ?_, ?_⟩ <;> simp <;> omega
  · rintro i d e hd ⟨p, cs, ss, x4, x5, x6, x7, rfl, hp, hcs, hcl, hss, hsl⟩
    obtain ⟨rfl, hi⟩ := rngL_mem hd
    obtain ⟨d0, hd0, hm0⟩ := getSome hi
    obtain ⟨a, s, b, q, rfl, ha0, ha, hs0, hs, hb0, hb, hq0, hq⟩ := hr d0 hm0
    refine g_nm ?_
    walk_at "ds"
    refine w_seq (Wp.mono (P := fun fl e1 => fl = .nx ∧ ∃ (p1 : D) (T : Int), e1 = [some p1, some (.tup ds), some (.lst cs), some (.lst ss), some (.int i), some (.int T), x6, x7, none, none, none, none] ∧ Purse (k + 2 + 3 * i + 2) p1 ∧ 0 ≤ T ∧ T ≤ 100000000000000000000) ?_ ?_)
    · walk_at "vc"
      refine (take_ok (n := 9) hp (by omega) (by omega) (by omega)).mono ?_
      rintro _ p1 ⟨y1, rfl, hy1, hp1⟩
      walk_at "vc"
      refine (take_ok (n := 4) hp1 (by omega) (by omega) (by omega)).mono ?_
      rintro _ p2 ⟨y2, rfl, hy2, hp2⟩
      walk_at "vc"
      have key : ∀ d ∈ [D.int 0, D.int 1, D.int y1, D.int (10 ^ Int.toNat 20)], ∃ T : Int, d = .int T ∧ 0 ≤ T ∧ T ≤ 100000000000000000000 :=
        all4 ⟨_, rfl, by decide, by decide⟩ ⟨_, rfl, by decide, by decide⟩ ⟨_, rfl, by omega, by omega⟩ ⟨_, rfl, by decide, by decide⟩
      refine o_idxM hy2 fun d hd => ?_
      obtain ⟨T, rfl, hT0, hT⟩ := key d hd
      walk_at "vc"
      refine o_idxT hd0 ?_
      walk_at "vc"
      refine ⟨rfl, p2, _, rfl, hp2, ?_, ?_⟩
      · split
        · rw [Int.mul_one]
          exact hT0
        · rw [Int.mul_zero]
          exact Int.le_refl 0
      · split
        · rw [Int.mul_one]
          exact hT
        · rw [Int.mul_zero]
          decide
    · rintro _ _ ⟨rfl, p1, T, rfl, hp1, hT0, hT⟩
      have ml1 := mul_le (X := 24) (Y := 100000000000000000000) (x := s) (y := T) hs0 hs hT0 hT
      have ml2 := mul_le (X := 10000000000000000000000) (Y := 100000000000000000000) (x := q) (y := T) hq0 hq hT0 hT
      walk_at "vc"
      refine o_idxT hd0 ?_
      walk_at "vc"
      refine o_idxT hd0 ?_
      walk_at "vc"
      refine o_idxT hd0 ?_
      walk_at "vc"
      refine o_idxT hd0 ?_
      walk_at "vc"
      refine o_max ?_
      walk_at "vc"
      refine o_addL (by simp only [List.length_cons, List.length_nil]; exact sz1 (by omega)) ?_
      walk_at "vc"
      have hss2 := spots_ok hss (x := b + q * T) (by omega)
      have hsl2 : (ss ++ [D.int (b + q * T), .int (b + q * T + 1), .int (max 0 (b + q * T - 1))]).length ≤ 8 + 3 * (i + 1) := by rw [List.length_append]; simp only [List.length_cons, List.length_nil]; omega
      generalize ss ++ [D.int (b + q * T), .int (b + q * T + 1), .int (max 0 (b + q * T - 1))] = ss2 at hss2 hsl2 ⊢
      refine ⟨lt_size (by omega), ?_⟩
      walk_at "vc"
      refine (take_ok (n := ds.length + 1) hp1 (by omega) (by omega) (by omega)).mono ?_
      rintro _ p3 ⟨y3, rfl, hy3, hp3⟩
      walk_at "vc"
      refine ⟨lt_size (by rw [List.length_append]; simp only [List.length_cons, List.length_nil]; omega), ?_⟩
      walk_at "vc"
      refine ⟨lt_size (by rw [List.length_append, List.length_append]; simp only [List.length_cons, List.length_nil]; omega), ?_⟩
      walk_at "vc"
      refine ⟨lt_size (by rw [List.length_append, List.length_append, List.length_append]; simp only [List.length_cons, List.length_nil]; omega), ?_⟩
      walk_at "vc"
      refine ⟨lt_size (by rw [List.length_append, List.length_append, List.length_append, List.length_append]; simp only [List.length_cons, List.length_nil]; omega), ?_⟩
      refine ⟨rfl, _, _, _, _, _, _, _, rfl, hp3.le (by omega), ?_, ?_, hss2, hsl2⟩
      · refine app_ok (app_ok (app_ok (app_ok (app_ok hcs ?_) ?_) ?_) ?_) ?_ <;> exact claim_lies hr hl (by omega) (by omega) (small_ints (by omega) (by omega))
      · rw [List.length_append, List.length_append, List.length_append, List.length_append, List.length_append]
        simp only [List.length_cons, List.length_nil]
        omega
  · rintro e ⟨p, cs, ss, x4, x5, x6, x7, rfl, hp, hcs, hcl, hss, hsl⟩
    rw [rngL_len] at hp hcl hsl
    walk_at "vc"
    refine w_forM (fun _ i e => ∃ (p : D) (cs : List D) (x7 x8 x9 x10 : Option D), e = [some p, some (.tup ds), some (.lst cs), some (.lst ss), x4, x5, x6, x7, x8, x9, x10, none] ∧ Purse (k + 2 + 3 * ds.length + 2 * i) p ∧ (∀ c ∈ cs, Claim c) ∧ cs.length ≤ 5 * ds.length + 3 * i) ?_
    walk_at "vc"
    refine ⟨⟨_, _, _, _, _, _, rfl, hp, hcs, hcl⟩, ?_, ?_⟩
    · rintro i d e hd ⟨p, cs, x7, x8, x9, x10, rfl, hp, hcs, hcl⟩
      have hi : i < ss.length := (List.getElem?_eq_some_iff.mp hd).1
      obtain ⟨x, rfl, hx0, hx⟩ := hss d (List.mem_of_getElem? hd)
      walk_at "vc"
      refine w_lcM (fun _ _ d => Word d) (Nat.le_of_ble_eq_true rfl) ?_
      walk_at "vc"
      refine ⟨rfl, sz1 (by omega), ?_, ?_⟩
      · intro d hd
        obtain ⟨a, s, b, q, rfl, ha0, ha, hs0, hs, hb0, hb, hq0, hq⟩ := hr d hd
        walk_at "vc"
        refine o_eq (why_eq a s b q x hq0) ?_
        walk_at "vc"
        refine o_addL (by have := whyL_len (b := b) (p := q) (x := x); exact sz1 (by simp only [List.length_cons, List.length_nil]; omega)) ?_
        walk_at "vc"
        refine o_idx0 (by simp) fun d hd => ⟨rfl, ?_⟩
        rcases List.mem_append.mp hd with hd | hd
        · exact whyL_word d hd
        · rw [List.mem_singleton.mp hd]
          exact .inr (.inr rfl)
      · intro ws hwl hww
        have hw : ∀ w ∈ ws, Word w := fun w hw => by
          obtain ⟨j, hj⟩ := List.getElem?_of_mem hw
          have hjl := (List.getElem?_eq_some_iff.mp hj).1
          obtain ⟨d, hd, _⟩ := getSome (ds := ds) (k := j) (by omega)
          exact hww j d w hd hj
        walk_at "vc"
        refine w_lcM (fun _ _ d => Word d) (Nat.le_of_ble_eq_true rfl) ?_
        walk_at "vc"
        refine ⟨rfl, sz1 (by omega), ?_, ?_⟩
        · intro d hd
          obtain ⟨a, s, b, q, rfl, ha0, ha, hs0, hs, hb0, hb, hq0, hq⟩ := hr d hd
          walk_at "vc"
          refine o_eq (why_eq a s b q x hq0) ?_
          walk_at "vc"
          refine o_addL (by have := whyL_len (b := b) (p := q) (x := x); exact sz1 (by simp only [List.length_cons, List.length_nil]; omega)) ?_
          walk_at "vc"
          refine o_neg ?_
          walk_at "vc"
          refine o_idx1 (by simp) fun d hd => ⟨rfl, ?_⟩
          rcases List.mem_append.mp hd with hd | hd
          · rw [List.mem_singleton.mp hd]
            exact .inl rfl
          · exact whyL_word d hd
        · intro vs hvl hvv
          have hv : ∀ w ∈ vs, Word w := fun w hw => by
            obtain ⟨j, hj⟩ := List.getElem?_of_mem hw
            have hjl := (List.getElem?_eq_some_iff.mp hj).1
            obtain ⟨d, hd, _⟩ := getSome (ds := ds) (k := j) (by omega)
            exact hvv j d w hd hj
          walk_at "vc"
          refine ⟨lt_size (by omega), ?_⟩
          walk_at "vc"
          refine ⟨lt_size (by rw [List.length_append]; simp only [List.length_cons, List.length_nil]; omega), ?_⟩
          walk_at "vc"
          have hcs2 := app_ok (app_ok hcs (claim_free (x := x) hr hl (by omega) hw (by omega))) (claim_free (x := x) hr hl (by omega) hv (by omega))
          refine o_neL0 (k := 0) (fun d hd => (hw d hd).py) (by decide) ?_
          walk_at "vc"
          have fin : ∀ (p2 : D) (us : List D) (x10 : Option D), Purse (k + 2 + 3 * ds.length + 2 * i + 2) p2 → us.length = ds.length → (∀ w ∈ us, Word w) → Wp (isL 2 (appS 2 (tupE (consA (tupE (consA (cst (.str "free")) (consA (vr 1) (consA (vr 7) nilA)))) (consA (callO tupleD 8) nilA))))) [some p2, some (.tup ds), some (.lst (cs ++ [.tup [.tup [.str "free", .tup ds, .int x], .tup ws]] ++ [.tup [.tup [.str "free", .tup ds, .int x], .tup vs]])), some (.lst ss), x4, x5, x6, some (.int x), some (.lst us), some (.lst vs), x10, none] fun fl e2 => fl = .nx ∧ ∃ (p : D) (cs : List D) (x7 x8 x9 x10 : Option D), e2 = [some p, some (.tup ds), some (.lst cs), some (.lst ss), x4, x5, x6, x7, x8, x9, x10, none] ∧ Purse (k + 2 + 3 * ds.length + 2 * (i + 1)) p ∧ (∀ c ∈ cs, Claim c) ∧ cs.length ≤ 5 * ds.length + 3 * (i + 1) := by
            intro p2 us x10 hp2 hul hus
            walk_at "vc"
            refine ⟨lt_size (by rw [List.length_append, List.length_append]; simp only [List.length_cons, List.length_nil]; omega), rfl, _, _, _, _, _, _, rfl, hp2.le (by omega), app_ok hcs2 (claim_free hr hl (by omega) hus (by omega)), ?_⟩
            rw [List.length_append, List.length_append, List.length_append]
            simp only [List.length_cons, List.length_nil]
            omega
          refine if_v (fun he => ?_) (fun he => ?_)
          · walk_at "v1"
            walk_at "nx"
            exact fin _ _ _ (hp.le (by omega)) hwl hw
          · have hne : 0 < ws.length := by
              cases ws with
              | nil => cases he
              | cons a b => exact Nat.succ_pos _
            walk_at "vc"
            refine (take_ok hp (by omega) hne (by omega)).mono ?_
            rintro _ p2 ⟨y2, rfl, hy2, hp2⟩
            walk_at "vc"
            refine (take_ok (n := 3) hp2 (by omega) (by omega) (by omega)).mono ?_
            rintro _ p3 ⟨y3, rfl, hy3, hp3⟩
            walk_at "vc"
            have key : ∀ d ∈ [D.str "single", D.str "ahead", D.str "rest"], Word d := all3 (.inl rfl) (.inr (.inl rfl)) (.inr (.inr rfl))
            refine o_idxM hy3 fun d hd => ?_
            walk_at "st"
            refine ⟨hy2, ?_⟩
            walk_at "nx"
            refine fin _ _ _ (hp3.le (by omega)) (by rw [List.length_set]; exact hwl) fun w hw2 => ?_
            rcases List.mem_or_eq_of_mem_set hw2 with h | h
            · exact hw w h
            · rw [h]
              exact key d hd
    · rintro e ⟨p, cs, x7, x8, x9, x10, rfl, hp, hcs, hcl⟩
      walk_at "vc"
      exact ⟨cs, rfl, hcs, by omega, hp.le (by omega)⟩
end Gk69

namespace Gk69
open PySem PySem.Spec PyProof.Rows L2 Dn
/-! ### small data is clean -/
section
variable {n k : Nat} {d : D}
theorem int_clean {i : Int} (hn : n ≤ 100) (h : smallB n k (.int i) = true) : i.natAbs.log2 < 300000 := by
  have h1 := small_int.mp h
  have h2 := log2_lt' (n := i.natAbs) (k := 200) (Nat.lt_of_le_of_lt (show i.natAbs ≤ 2000000000000000000000000000000000000000000000 by omega) (by decide)) (by decide)
  omega
theorem small_clean1 (hn : n ≤ 100) (h : smallB n k d = true) : clean1 d = true := by
  cases d with
  | fn j => cases k <;> cases h
  | int i => exact decide_eq_true (int_clean hn h)
  | _ => rfl
theorem small_clean2 (hn : n ≤ 100) (h : smallB n k d = true) : clean2 d = true := by
  cases d with
  | fn j => cases k <;> cases h
  | tup ds =>
    cases k with
    | zero => cases h
    | succ k =>
      obtain ⟨h1, h2⟩ := small_tup.mp h
      show (ds.all clean1 && decide (ds.length ≤ 1000)) = true
      rw [Bool.and_eq_true, List.all_eq_true]
      exact ⟨fun d hd => small_clean1 hn (h2 d hd), decide_eq_true (by omega)⟩
  | _ => rfl
theorem small_clean3 (hn : n ≤ 100) (h : smallB n k d = true) : clean3 d = true := by
  cases d with
  | fn j => cases k <;> cases h
  | int i => exact decide_eq_true (int_clean hn h)
  | tup ds =>
    cases k with
    | zero => cases h
    | succ k =>
      obtain ⟨h1, h2⟩ := small_tup.mp h
      show (ds.all clean2 && decide (ds.length ≤ 1000)) = true
      rw [Bool.and_eq_true, List.all_eq_true]
      exact ⟨fun d hd => small_clean2 hn (h2 d hd), decide_eq_true (by omega)⟩
  | _ => rfl
end
/-! ### comprehensions told -/
theorem ext_map {ds rs : List D} {hh : D → D} (hl : rs.length = ds.length) (h : ∀ (j : Nat) (d r : D), ds[j]? = some d → rs[j]? = some r → r = hh d) : rs = ds.map hh := by
  apply List.ext_getElem?
  intro j
  rw [List.getElem?_map]
  by_cases hj : j < ds.length
  · obtain ⟨d, hd, _⟩ := getSome hj
    obtain ⟨r, hr, _⟩ := getSome (ds := rs) (k := j) (by omega)
    rw [hd, hr, h j d r hd hr]
    rfl
  · rw [List.getElem?_eq_none (by omega), List.getElem?_eq_none (by omega)]
    rfl
theorem w_lcMap {i : Nat} {el : MD D} {F : MD (List D)} {e : Lc} (hh : List D → D → D) {Q : List D → Lc → Prop} (hi : i < e.length) (h : Wp F e fun ds e1 => e1 = e ∧ ds.length ≤ sizeLine ∧ (∀ d ∈ ds, Wp el (e.set i (some d)) fun r e2 => e2 = e.set i (some d) ∧ r = hh ds d) ∧ Q (ds.map (hh ds)) e) : Wp (lcM [i] F (nmG i) yesT el) e Q :=
  w_lcM (fun ds d r => r = hh ds d) hi (h.mono fun ds e1 ⟨h1, h2, h3, h4⟩ => ⟨h1, h2, h3, fun rs hl hr => by rw [ext_map hl hr]; exact h4⟩)
theorem o_all {ds : List D} {p : D → Bool} {Q : D → Prop} (h : Q (.bl (ds.all p))) : Ok (allD [.lst (ds.map fun d => .bl (p d))]) Q := ⟨.bl (ds.all p), by simp [allD, blsD_map, List.all_map, Function.comp_def], h⟩
theorem o_isTupN {d : D} {Q : D → Prop} (h0 : ∀ ds, d ≠ .tup ds) (h1 : ∀ j, d ≠ .fn j) (h : Q (.bl false)) : Ok (isiD isTup d) Q := by
  cases d with
  | tup ds => exact absurd rfl (h0 ds)
  | fn j => exact absurd rfl (h1 j)
  | _ => exact ⟨_, rfl, h⟩
theorem small_fn {n k : Nat} {d : D} (h : smallB n k d = true) : ∀ j, d ≠ .fn j := fun j z => by
  subst z
  cases k <;> cases h
theorem all_wholeC {ds : List D} (h : ds.all whole = true) : ∀ {k : Nat} {d : D}, ds[k]? = some d → ∃ n : Nat, d = .int n := fun hk => whole_int (List.all_eq_true.mp h _ (List.mem_of_getElem? hk))
/-! ### lies -/
def liesB (r f s sh : D) : Bool := laysOk r && (whole f && (whole s && (match r, f, s, sh with
  | .tup rs, .int f, .int s, .tup [.int k, .int t] => decide (0 ≤ k) && (decide (0 ≤ t) && (match rs[k.toNat]? with
    | some (.tup [.int a, .int st, .int b, .int p]) => !(st == 0 && !(t == 0)) && (a + st * t == f && b + p * t == s)
    | _ => false))
  | _, _, _, _ => false)))
theorem liesB_len {r f s : D} {ws : List D} (h : ws.length ≠ 2) : liesB r f s (.tup ws) = false := by
  unfold liesB
  split
  · rename_i hh
    cases hh
    exact absurd rfl h
  · simp
theorem liesB_not {r f s : D} {ws : List D} (h : ws.all whole = false) : liesB r f s (.tup ws) = false := by
  unfold liesB
  split
  · rename_i k t hh
    cases hh
    simp [whole] at h
    by_cases hk : 0 ≤ k
    · have := h hk
      simp [show ¬ 0 ≤ t by omega]
    · simp [hk]
  · simp
theorem liesB_eq {rs : List D} {f s k t : Nat} (h1 : laysOk (.tup rs) = true) : liesB (.tup rs) (.int f) (.int s) (.tup [.int k, .int t]) = match rs[k]? with
    | some (.tup [.int a, .int st, .int b, .int p]) => !(st == 0 && !((t : Int) == 0)) && (a + st * t == f && b + p * t == s)
    | _ => false := by
  unfold liesB
  simp [h1, whole]
theorem two_of {ws : List D} (h : ws.length = 2) (hw : ws.all whole = true) : ∃ k t : Nat, ws = [.int k, .int t] := by
  match ws, h with
  | [a, b], _ =>
    rw [List.all_eq_true] at hw
    obtain ⟨k, rfl⟩ := whole_int (hw a (by simp))
    obtain ⟨t, rfl⟩ := whole_int (hw b (by simp))
    exact ⟨k, t, rfl⟩
theorem row_bounds {n k j : Nat} {rs : List Row} {q : Row} (hn : n ≤ 100) (h : smallB n k (.tup (rs.map Row.d)) = true) (hj : (rs.map Row.d)[j]? = some q.d) : q.a ≤ 2000000000000000000000000000000000000000000000 ∧ q.s ≤ 2000000000000000000000000000000000000000000000 ∧ q.b ≤ 2000000000000000000000000000000000000000000000 ∧ q.p ≤ 2000000000000000000000000000000000000000000000 := by
  cases k with
  | zero => cases h
  | succ k =>
    have h2 := (small_tup.mp h).2 _ (List.mem_of_getElem? hj)
    cases k with
    | zero => cases h2
    | succ k =>
      have h3 := (small_tup.mp h2).2
      have a1 := small_int.mp (h3 (.int q.a) (by simp))
      have a2 := small_int.mp (h3 (.int q.s) (by simp))
      have a3 := small_int.mp (h3 (.int q.b) (by simp))
      have a4 := small_int.mp (h3 (.int q.p) (by simp))
      omega
theorem small_part {n k : Nat} {ds : List D} (h : smallB n k (.tup ds) = true) : ∀ d ∈ ds, smallB n (k - 1) d = true := by
  cases k with
  | zero => cases h
  | succ k => exact (small_tup.mp h).2
theorem small_tlen {n k : Nat} {ds : List D} (h : smallB n k (.tup ds) = true) : ds.length ≤ 100 + n := by
  cases k with
  | zero => cases h
  | succ k => exact (small_tup.mp h).1
theorem lays_rows {r : D} (h : laysOk r = true) (hc : clean3 r = true) : ∃ rs : List Row, r = .tup (rs.map Row.d) ∧ (∀ q ∈ rs, q.s ≤ 240) ∧ rs.length ≤ 60 := by
  cases r with
  | tup ds =>
    rw [laysOk_tup] at h
    simp only [Bool.and_eq_true, decide_eq_true_eq] at h
    simp only [clean3, Bool.and_eq_true, List.all_eq_true, decide_eq_true_eq] at hc
    obtain ⟨rs, rfl, h2⟩ := rows_ex h.1.2 hc.1
    exact ⟨rs, rfl, fun q hq => (h2 q hq).1, by have := h.1.1; rwa [List.length_map] at this⟩
  | _ => cases h
theorem claim_lies_eq {n k : Nat} {r f s sh : D} (hn : n ≤ 100) (hr : smallB n k r = true) (hf : smallB n k f = true) (hs : smallB n k s = true) (hh : smallB n k sh = true) : F_claim_lies [.tup [r, f, s], sh] = .ok (.bl (liesB r f s sh)) := by
  refine o_out ?_
  unfold F_claim_lies
  refine w_runB (e0 := [some (.tup [r, f, s]), some sh, none, none, none, none, none, none, none, none]) rfl ?_
  unfold m_claim_lies
  walk_at "vc"
  refine o_eq (is_laying_eq r (small_clean3 hn hr)) ?_
  walk_at "vc"
  refine if_v (fun h1 => ?_) (fun h1 => ?_)
  rotate_left
  · walk_at "vc"
    simp [liesB, h1]
  walk_at "vc"
  refine o_eq (is_count_eq f (small_clean1 hn hf)) ?_
  walk_at "vc"
  refine if_v (fun h2 => ?_) (fun h2 => ?_)
  rotate_left
  · walk_at "vc"
    simp [liesB, h1, h2]
  walk_at "vc"
  refine o_eq (is_count_eq s (small_clean1 hn hs)) ?_
  walk_at "vc"
  refine if_v (fun h3 => ?_) (fun h3 => ?_)
  rotate_left
  · walk_at "vc"
    simp [liesB, h1, h2, h3]
  obtain ⟨rs, rfl, hst, hrl⟩ := lays_rows h1 (small_clean3 hn hr)
  obtain ⟨f, rfl⟩ := whole_int h2
  obtain ⟨s, rfl⟩ := whole_int h3
  walk_at "vc"
  by_cases ht : ∃ ws, sh = .tup ws
  rotate_left
  · refine o_isTupN (fun ds hd => ht ⟨ds, hd⟩) (small_fn hh) ?_
    walk_at "vc"
    unfold liesB
    split
    · exact absurd ⟨_, rfl⟩ ht
    · simp
  obtain ⟨ws, rfl⟩ := ht
  have hws := (fun d hd => small_part hh d hd : ∀ d ∈ ws, smallB n (k - 1) d = true)
  have hwl := small_tlen hh
  walk_at "vc"
  refine if_e (fun h4 => ?_) (fun h4 => ?_)
  rotate_left
  · walk_at "vc"
    rw [liesB_len (by omega)]
  walk_at "vc"
  refine w_lcMap (fun _ d => .bl (whole d)) (Nat.le_of_ble_eq_true rfl) ?_
  walk_at "vc"
  refine ⟨rfl, sz1 (by omega), fun d hd => ?_, ?_⟩
  · walk_at "vc"
    exact o_eq (is_count_eq d (small_clean1 hn (hws d hd))) ⟨rfl, rfl⟩
  walk_at "vc"
  refine o_all ?_
  walk_at "vc"
  refine if_v (fun h5 => ?_) (fun h5 => ?_)
  rotate_left
  · walk_at "vc"
    rw [liesB_not h5]
  obtain ⟨i, t, rfl⟩ := two_of (by omega) h5
  have ht := small_int.mp (hws (.int t) (by simp))
  walk_at "vc"
  refine if_d (fun h6 => ?_) (fun h6 => ?_)
  · walk_at "vc"
    rw [liesB_eq h1, List.getElem?_eq_none (by omega)]
  obtain ⟨d0, hd0, hm0⟩ := getSome (ds := rs.map Row.d) (k := i) (by omega)
  obtain ⟨q, hq, rfl⟩ := List.mem_map.mp hm0
  have hqb := row_bounds hn hr hd0
  have hspec := liesB_eq (f := f) (s := s) (k := i) (t := t) h1
  rw [hd0] at hspec
  obtain ⟨qa, qs, qb, qp⟩ := q
  simp only [Row.d] at hspec hqb
  rw [hspec]
  walk_at "vc"
  refine o_idxT (d := .tup [.int qa, .int qs, .int qb, .int qp]) hd0 ?_
  walk_at "vc"
  have fin : ∀ e : Lc, (∃ r0 x9, e = [some r0, some (.tup [.int i, .int t]), some (.tup (rs.map Row.d)), some (.int f), some (.int s), some (.int qa), some (.int qs), some (.int qb), some (.int qp), x9]) → (!((qs : Int) == 0 && !((t : Int) == 0))) = true → Wp (retS (andV (bin2 eqD (bin2 addD (vr 5) (bin2 mulD (vr 6) (bin2 idxD (vr 1) (cst (.int 1))))) (vr 3)) (bin2 eqD (bin2 addD (vr 7) (bin2 mulD (vr 8) (bin2 idxD (vr 1) (cst (.int 1))))) (vr 4)))) e (OutW false fun x => x = .bl (!((qs : Int) == 0 && !((t : Int) == 0)) && ((qa : Int) + qs * t == f && (qb : Int) + qp * t == s))) := by
    rintro _ ⟨r0, x9, rfl⟩ hz
    rw [hz]
    walk_at "vc"
    refine if_e (fun h8 => ?_) (fun h8 => ?_)
    · walk_at "vc"
      simp [h8]
    · walk_at "vc"
      simp [h8]
  refine if_e (fun h7 => ?_) (fun h7 => ?_)
  · walk_at "vc"
    refine if_e (fun h8 => ?_) (fun h8 => ?_)
    · refine w_nx ?_
      refine q_nx ?_
      exact fin _ ⟨_, _, rfl⟩ (by simp [h7, h8])
    · walk_at "vc"
      have hq0 : qs = 0 := by omega
      have ht0 : t ≠ 0 := by omega
      simp [hq0, ht0]
  · have hq0 : qs ≠ 0 := by omega
    refine if_f ?_
    refine w_nx ?_
    refine q_nx ?_
    exact fin _ ⟨_, _, rfl⟩ (by simp [hq0])
theorem law_lies_eq {n k : Nat} {w r f s sh : D} (hn : n ≤ 100) (hr : smallB n k r = true) (hf : smallB n k f = true) (hs : smallB n k s = true) (hh : smallB n k sh = true) : F__law_lies [.tup [w, r, f, s], sh] = .ok (.bl (liesB r f s sh)) := by
  refine o_out ?_
  unfold F__law_lies
  refine w_runB (e0 := [some (.tup [w, r, f, s]), some sh, none, none, none, none, none, none]) rfl ?_
  unfold m__law_lies
  walk_at "vc"
  obtain ⟨ft, hft, hfe⟩ := law_fault_eq r (small_clean3 hn hr)
  refine o_eq hft ?_
  walk_at "vc"
  refine o_neT0 ?_
  rw [hfe]
  walk_at "vc"
  refine if_v (fun h1 => ?_) (fun h1 => ?_)
  rotate_left
  · walk_at "vc"
    simp [liesB, h1]
  walk_at "vc"
  refine o_eq (whole_eq f (small_clean1 hn hf)) ?_
  walk_at "vc"
  refine if_v (fun h2 => ?_) (fun h2 => ?_)
  rotate_left
  · walk_at "vc"
    simp [liesB, h1, h2]
  walk_at "vc"
  refine o_eq (whole_eq s (small_clean1 hn hs)) ?_
  walk_at "vc"
  refine if_v (fun h3 => ?_) (fun h3 => ?_)
  rotate_left
  · walk_at "vc"
    simp [liesB, h1, h2, h3]
  obtain ⟨rs, rfl, hst, hrl⟩ := lays_rows h1 (small_clean3 hn hr)
  obtain ⟨f, rfl⟩ := whole_int h2
  obtain ⟨s, rfl⟩ := whole_int h3
  walk_at "vc"
  by_cases ht : ∃ ws, sh = .tup ws
  rotate_left
  · refine o_isTupN (fun ds hd => ht ⟨ds, hd⟩) (small_fn hh) ?_
    walk_at "vc"
    unfold liesB
    split
    · exact absurd ⟨_, rfl⟩ ht
    · simp
  obtain ⟨ws, rfl⟩ := ht
  have hws := (fun d hd => small_part hh d hd : ∀ d ∈ ws, smallB n (k - 1) d = true)
  have hwl := small_tlen hh
  walk_at "vc"
  refine if_e (fun h4 => ?_) (fun h4 => ?_)
  rotate_left
  · walk_at "vc"
    rw [liesB_len (by omega)]
  walk_at "vc"
  refine w_lcMap (fun _ d => .bl (whole d)) (Nat.le_of_ble_eq_true rfl) ?_
  walk_at "vc"
  refine ⟨rfl, sz1 (by omega), fun d hd => ?_, ?_⟩
  · walk_at "vc"
    exact o_eq (whole_eq d (small_clean1 hn (hws d hd))) ⟨rfl, rfl⟩
  walk_at "vc"
  refine o_all ?_
  walk_at "vc"
  refine if_v (fun h5 => ?_) (fun h5 => ?_)
  rotate_left
  · walk_at "vc"
    rw [liesB_not h5]
  obtain ⟨i, t, rfl⟩ := two_of (by omega) h5
  have ht := small_int.mp (hws (.int t) (by simp))
  walk_at "vc"
  refine if_d (fun h6 => ?_) (fun h6 => ?_)
  · walk_at "vc"
    rw [liesB_eq h1, List.getElem?_eq_none (by omega)]
  obtain ⟨d0, hd0, hm0⟩ := getSome (ds := rs.map Row.d) (k := i) (by omega)
  obtain ⟨q, hq, rfl⟩ := List.mem_map.mp hm0
  have hqb := row_bounds hn hr hd0
  have hspec := liesB_eq (f := f) (s := s) (k := i) (t := t) h1
  rw [hd0] at hspec
  obtain ⟨qa, qs, qb, qp⟩ := q
  simp only [Row.d] at hspec hqb
  rw [hspec]
  walk_at "vc"
  refine o_idxT (d := .tup [.int qa, .int qs, .int qb, .int qp]) hd0 ?_
  walk_at "vc"
  have fin : ∀ e : Lc, (∃ r0 x2 x7, e = [some r0, some (.tup [.int i, .int t]), some x2, some (.tup (rs.map Row.d)), some (.int f), some (.int s), some (.tup [.int qa, .int qs, .int qb, .int qp]), x7]) → (!((qs : Int) == 0 && !((t : Int) == 0))) = true → Wp (retS (andV (bin2 eqD (bin2 addD (bin2 idxD (vr 6) (cst (.int 0))) (bin2 mulD (bin2 idxD (vr 6) (cst (.int 1))) (bin2 idxD (vr 1) (cst (.int 1))))) (vr 4)) (bin2 eqD (bin2 addD (bin2 idxD (vr 6) (cst (.int 2))) (bin2 mulD (bin2 idxD (vr 6) (cst (.int 3))) (bin2 idxD (vr 1) (cst (.int 1))))) (vr 5)))) e (OutW false fun x => x = .bl (!((qs : Int) == 0 && !((t : Int) == 0)) && ((qa : Int) + qs * t == f && (qb : Int) + qp * t == s))) := by
    rintro _ ⟨r0, x2, x7, rfl⟩ hz
    rw [hz]
    walk_at "vc"
    refine if_e (fun h8 => ?_) (fun h8 => ?_)
    · walk_at "vc"
      simp [h8]
    · walk_at "vc"
      simp [h8]
  refine if_e (fun h7 => ?_) (fun h7 => ?_)
  · walk_at "vc"
    refine if_d (fun h8 => ?_) (fun h8 => ?_)
    · walk_at "vc"
      have hq0 : qs = 0 := by omega
      have ht0 : t ≠ 0 := by omega
      simp [hq0, ht0]
    · refine w_nx ?_
      refine q_nx ?_
      have hq0 : qs = 0 := by omega
      have ht0 : t = 0 := by omega
      exact fin _ ⟨_, _, _, rfl⟩ (by simp [hq0, ht0])
  · have hq0 : qs ≠ 0 := by omega
    refine if_f ?_
    refine w_nx ?_
    refine q_nx ?_
    exact fin _ ⟨_, _, _, rfl⟩ (by simp [hq0])
end Gk69

namespace Gk69
open PySem PySem.Spec PyProof.Rows L2 Dn
/-! ### free -/
def whyS (b p x : Int) : List Str := if p = 0 then (if b = x then [] else [Str.ofString "single"]) else (if x < b then [Str.ofString "ahead"] else []) ++ (if (x - b) % p = 0 then [] else [Str.ofString "rest"])
theorem whyL_map (b p x : Int) : whyL b p x = (whyS b p x).map D.str := by
  unfold whyL whyS
  split
  · split <;> rfl
  · split <;> split <;> rfl
theorem whyS_asc {b p x : Int} : ∀ w ∈ whyS b p x, Asc w := fun w hw => by
  have h : D.str w ∈ whyL b p x := by
    rw [whyL_map]
    exact List.mem_map.mpr ⟨w, hw, rfl⟩
  rcases whyL_word _ h with h | h | h
  · cases h
    unfold Asc
    decide
  · cases h
    unfold Asc
    decide
  · cases h
    unfold Asc
    decide
def wordOk (x : Int) : D → D → Bool
  | .tup [_, _, .int b, .int p], .str z => decide (z ∈ whyS b p x)
  | _, _ => false
theorem o_eqS {a b : Str} {Q : D → Prop} (h : Q (.bl (a == b))) : Ok (eqD (.str a) (.str b)) Q := ⟨_, rfl, h⟩
theorem row_misses_eq (a s b p x : Int) (z : Str) (hp : 0 ≤ p) : F_row_misses [.tup [.int a, .int s, .int b, .int p], .int x, .str z] = .ok (.bl (decide (z ∈ whyS b p x))) := by
  refine o_out ?_
  unfold F_row_misses
  refine w_runB (e0 := [some (.tup [.int a, .int s, .int b, .int p]), some (.int x), some (.str z)]) rfl ?_
  unfold m_row_misses
  have n1 : ("single" : Str) ≠ "ahead" := by decide
  have n2 : ("single" : Str) ≠ "rest" := by decide
  have n3 : ("ahead" : Str) ≠ "rest" := by decide
  walk_at "vc"
  refine if_e (fun h0 => ?_) (fun h0 => ?_)
  · walk_at "vc"
    refine o_eqS ?_
    walk_at "vc"
    refine if_s (fun h1 => ?_) (fun h1 => ?_)
    · walk_at "vc"
      rw [h1]
      unfold whyS
      rw [if_pos h0]
      by_cases h2 : b = x <;> simp [h2]
    · walk_at "vc"
      unfold whyS
      rw [if_pos h0]
      by_cases h2 : b = x <;> simp [h2, h1]
  · walk_at "vc"
    refine o_eqS ?_
    walk_at "vc"
    refine if_s (fun h1 => ?_) (fun h1 => ?_)
    · walk_at "vc"
      refine if_d (fun h2 => ?_) (fun h2 => ?_)
      · walk_at "vc"
        rw [h1]
        unfold whyS
        rw [if_neg h0, if_pos h2]
        simp
      · walk_at "vc"
        refine o_eqS ?_
        rw [h1, show (Str.ofString "ahead" == Str.ofString "rest") = false from by decide]
        walk_at "vc"
        unfold whyS
        rw [if_neg h0, if_neg h2]
        by_cases h3 : (x - b) % p = 0 <;> simp [h3, n3]
    · walk_at "vc"
      refine o_eqS ?_
      walk_at "vc"
      refine if_s (fun h2 => ?_) (fun h2 => ?_)
      · walk_at "vc"
        rw [h2]
        unfold whyS
        rw [if_neg h0]
        by_cases h3 : (x - b) % p = 0 <;> by_cases h4 : x < b <;> simp [h3, h4, n3.symm]
      · walk_at "vc"
        unfold whyS
        rw [if_neg h0]
        by_cases h3 : (x - b) % p = 0 <;> by_cases h4 : x < b <;> simp [h3, h4, h1, h2]
theorem w_lcGen {vs : List Nat} {g : GD} {el : MD D} {F : MD (List D)} {e : Lc} (hh : List D → D → D) {Q : List D → Lc → Prop} (hk : keepL e (wipeL e vs) vs = e) (h : Wp F e fun ds e1 => e1 = e ∧ ds.length ≤ sizeLine ∧ (∀ d ∈ ds, Ok (g d (wipeL e vs)) fun e2 => Wp el e2 fun r e3 => e3 = e2 ∧ r = hh ds d ∧ wipeL e2 vs = wipeL e vs) ∧ Q (ds.map (hh ds)) e) : Wp (lcM vs F g yesT el) e Q := by
  obtain ⟨ds, e1, hF, rfl, hz, h, hq⟩ := h
  refine ⟨ds.map (hh ds), e1, ?_, hq⟩
  unfold lcM
  rw [hF]
  simp only [R.bind_ok]
  rw [if_pos hz, lcS_gen (hh := hh ds) ds fun d hd => ?_]
  · simp only [R.bind_ok, hk]
  · obtain ⟨e2, h1, r, e3, h2, rfl, rfl, h3⟩ := h d hd
    exact ⟨e3, h1, h2, h3⟩
theorem w_zipM {a : MD (List D)} {e : Lc} {Q : List D → Lc → Prop} (h : Wp a e fun ds e1 => ∃ xs ys : List D, ds = [.tup xs, .tup ys] ∧ Q (zipL xs ys) e1) : Wp (zipM a) e Q := by
  obtain ⟨_, e1, h1, xs, ys, rfl, h2⟩ := h
  exact ⟨_, _, by unfold zipM; rw [h1]; rfl, h2⟩
theorem zipL_mem : ∀ {xs ys : List D} {d : D}, d ∈ zipL xs ys → ∃ x y : D, d = .tup [x, y] ∧ x ∈ xs ∧ y ∈ ys
  | [], ys, d, h => by simp [zipL] at h
  | x :: xs, [], d, h => by simp [zipL] at h
  | x :: xs, y :: ys, d, h => by
    rcases List.mem_cons.mp h with rfl | h
    · exact ⟨x, y, rfl, List.mem_cons_self .., List.mem_cons_self ..⟩
    · obtain ⟨a, b, e, h1, h2⟩ := zipL_mem h
      exact ⟨a, b, e, List.mem_cons_of_mem _ h1, List.mem_cons_of_mem _ h2⟩
def pairOk (x : Int) : D → Bool
  | .tup [r, w] => wordOk x r w
  | _ => false
def atOk (rs ws : List D) (x : Int) : D → Bool
  | .int k => match (zipL rs ws)[k.toNat]? with
    | some d => pairOk x d
    | none => false
  | _ => false
theorem at_all {rs ws : List D} {x : Int} (h : ws.length = rs.length) : (rngL 0 rs.length).all (atOk rs ws x) = (zipL rs ws).all (pairOk x) := by
  have hl : (zipL rs ws).length = rs.length := by rw [zipL_len]; omega
  rw [Bool.eq_iff_iff, List.all_eq_true, List.all_eq_true]
  constructor
  · intro h1 d hd
    obtain ⟨j, hj⟩ := List.getElem?_of_mem hd
    have hjl := (List.getElem?_eq_some_iff.mp hj).1
    have h2 := h1 (.int j) (by
      refine List.mem_of_getElem? (i := j) ?_
      rw [rngL_get, if_pos (by omega), Int.zero_add])
    unfold atOk at h2
    simp only [Int.toNat_natCast, hj] at h2
    exact h2
  · intro h1 d hd
    obtain ⟨j, hj⟩ := List.getElem?_of_mem hd
    obtain ⟨rfl, hj2⟩ := rngL_mem hj
    obtain ⟨d, hd2, hm⟩ := getSome (ds := zipL rs ws) (k := j) (by omega)
    unfold atOk
    simp only [Int.toNat_natCast, hd2]
    exact h1 d hm
def freeB (r x sh : D) : Bool := laysOk r && (whole x && (match r, x, sh with
  | .tup rs, .int x, .tup ws => decide (ws.length = rs.length) && (zipL rs ws).all (pairOk x)
  | _, _, _ => false))
theorem freeB_eq {rs ws : List D} {x : Nat} (h : laysOk (.tup rs) = true) : freeB (.tup rs) (.int x) (.tup ws) = (decide (ws.length = rs.length) && (zipL rs ws).all (pairOk x)) := by
  unfold freeB
  simp [h, whole]
theorem o_isStrN {d : D} {Q : D → Prop} (h0 : ∀ z, d ≠ .str z) (h1 : ∀ j, d ≠ .fn j) (h : Q (.bl false)) : Ok (isiD isStr d) Q := by
  cases d with
  | str ds => exact absurd rfl (h0 ds)
  | fn j => exact absurd rfl (h1 j)
  | _ => exact ⟨_, rfl, h⟩
theorem wordOk_no {x : Int} {r d : D} (h0 : ∀ z, d ≠ .str z) : wordOk x r d = false := by
  unfold wordOk
  split
  · exact absurd rfl (h0 _)
  · rfl
theorem is_free_eq {n k : Nat} {r x sh : D} (hn : n ≤ 100) (hr : smallB n k r = true) (hx : smallB n k x = true) (hh : smallB n k sh = true) : F_is_free [.tup [r, x], sh] = .ok (.bl (freeB r x sh)) := by
  refine o_out ?_
  unfold F_is_free
  refine w_runB (e0 := [some (.tup [r, x]), some sh, none, none, none, none]) rfl ?_
  unfold m_is_free
  walk_at "vc"
  refine o_eq (is_laying_eq r (small_clean3 hn hr)) ?_
  walk_at "vc"
  refine if_v (fun h1 => ?_) (fun h1 => ?_)
  rotate_left
  · walk_at "vc"
    simp [freeB, h1]
  walk_at "vc"
  refine o_eq (is_count_eq x (small_clean1 hn hx)) ?_
  walk_at "vc"
  refine if_v (fun h2 => ?_) (fun h2 => ?_)
  rotate_left
  · walk_at "vc"
    simp [freeB, h1, h2]
  obtain ⟨rs, rfl, hst, hrl⟩ := lays_rows h1 (small_clean3 hn hr)
  obtain ⟨x, rfl⟩ := whole_int h2
  walk_at "vc"
  by_cases ht : ∃ ws, sh = .tup ws
  rotate_left
  · refine o_isTupN (fun ds hd => ht ⟨ds, hd⟩) (small_fn hh) ?_
    walk_at "vc"
    unfold freeB
    split
    · exact absurd ⟨_, rfl⟩ ht
    · simp
  obtain ⟨ws, rfl⟩ := ht
  rw [freeB_eq h1]
  have hws := (fun d hd => small_part hh d hd : ∀ d ∈ ws, smallB n (k - 1) d = true)
  have hwl := small_tlen hh
  walk_at "vc"
  refine if_e (fun h4 => ?_) (fun h4 => ?_)
  rotate_left
  · walk_at "vc"
    rw [decide_eq_false (by omega)]
    rfl
  walk_at "vc"
  refine w_lcGen (fun _ d => .bl (pairOk x d)) rfl ?_
  refine w_zipM ?_
  walk_at "vc"
  refine ⟨_, _, rfl, rfl, sz1 (by rw [zipL_len, List.length_map]; omega), fun d hd => ?_, ?_⟩
  · obtain ⟨a, b, rfl, ha, hb⟩ := zipL_mem hd
    obtain ⟨q, hq, rfl⟩ := List.mem_map.mp ha
    walk_at "vc"
    by_cases hs : ∃ z, b = .str z
    · obtain ⟨z, rfl⟩ := hs
      walk_at "vc"
      refine o_eq (row_misses_eq q.a q.s q.b q.p x z (by omega)) ⟨rfl, rfl, rfl⟩
    · refine o_isStrN (fun z hz => hs ⟨z, hz⟩) (small_fn (hws b hb)) ?_
      walk_at "vc"
      refine ⟨rfl, ?_, rfl⟩
      show _ = D.bl (wordOk x q.d b)
      rw [wordOk_no fun z hz => hs ⟨z, hz⟩]
  · walk_at "vc"
    refine o_all ?_
    walk_at "vc"
    rw [decide_eq_true (by omega)]
    rfl
theorem law_free_eq {n k : Nat} {w r x sh : D} (hn : n ≤ 100) (hr : smallB n k r = true) (hx : smallB n k x = true) (hh : smallB n k sh = true) : F__law_free [.tup [w, r, x], sh] = .ok (.bl (freeB r x sh)) := by
  refine o_out ?_
  unfold F__law_free
  refine w_runB (e0 := [some (.tup [w, r, x]), some sh, none, none, none, none]) rfl ?_
  unfold m__law_free
  walk_at "vc"
  obtain ⟨ft, hft, hfe⟩ := law_fault_eq r (small_clean3 hn hr)
  refine o_eq hft ?_
  walk_at "vc"
  refine o_neT0 ?_
  rw [hfe]
  walk_at "vc"
  refine if_v (fun h1 => ?_) (fun h1 => ?_)
  rotate_left
  · walk_at "vc"
    simp [freeB, h1]
  walk_at "vc"
  refine o_eq (whole_eq x (small_clean1 hn hx)) ?_
  walk_at "vc"
  refine if_v (fun h2 => ?_) (fun h2 => ?_)
  rotate_left
  · walk_at "vc"
    simp [freeB, h1, h2]
  obtain ⟨rs, rfl, hst, hrl⟩ := lays_rows h1 (small_clean3 hn hr)
  obtain ⟨x, rfl⟩ := whole_int h2
  walk_at "vc"
  by_cases ht : ∃ ws, sh = .tup ws
  rotate_left
  · refine o_isTupN (fun ds hd => ht ⟨ds, hd⟩) (small_fn hh) ?_
    walk_at "vc"
    unfold freeB
    split
    · exact absurd ⟨_, rfl⟩ ht
    · simp
  obtain ⟨ws, rfl⟩ := ht
  rw [freeB_eq h1]
  have hws := (fun d hd => small_part hh d hd : ∀ d ∈ ws, smallB n (k - 1) d = true)
  have hwl := small_tlen hh
  walk_at "vc"
  refine if_e (fun h4 => ?_) (fun h4 => ?_)
  rotate_left
  · walk_at "vc"
    rw [decide_eq_false (by omega)]
    rfl
  have h5 : ws.length = (rs.map Row.d).length := by omega
  walk_at "vc"
  refine w_lcMap (fun _ d => .bl (atOk (rs.map Row.d) ws x d)) (Nat.le_of_ble_eq_true rfl) ?_
  walk_at "vc"
  refine ⟨by rw [List.length_map]; omega, rfl, sz1 (by rw [rngL_len, List.length_map]; omega), fun d hd => ?_, ?_⟩
  · obtain ⟨j, hj⟩ := List.getElem?_of_mem hd
    obtain ⟨rfl, hj2⟩ := rngL_mem hj
    obtain ⟨d0, hd0, hm0⟩ := getSome hj2
    obtain ⟨b, hb, hmb⟩ := getSome (ds := ws) (k := j) (by omega)
    obtain ⟨q, hq, rfl⟩ := List.mem_map.mp hm0
    have hat : atOk (rs.map Row.d) ws x (.int j) = wordOk x q.d b := by
      unfold atOk
      simp only [Int.toNat_natCast, zipL_get, hd0, hb]
      rfl
    rw [hat]
    walk_at "vc"
    refine o_idxT hb ?_
    by_cases hs : ∃ z, b = .str z
    · obtain ⟨z, rfl⟩ := hs
      walk_at "vc"
      refine o_idxT hb ?_
      walk_at "vc"
      refine o_idxT hd0 ?_
      walk_at "vc"
      refine o_eq (why_eq q.a q.s q.b q.p x (by omega)) ?_
      rw [whyL_map]
      refine o_eq (mem_strs (small_str.mp (hws _ hmb)).1 whyS_asc) ?_
      exact ⟨rfl, rfl⟩
    · refine o_isStrN (fun z hz => hs ⟨z, hz⟩) (small_fn (hws b hmb)) ?_
      walk_at "vc"
      refine ⟨rfl, ?_⟩
      rw [wordOk_no fun z hz => hs ⟨z, hz⟩]
  · walk_at "vc"
    refine o_all ?_
    walk_at "vc"
    rw [at_all h5, decide_eq_true h5]
    rfl
end Gk69

namespace Gk69
open PySem PySem.Spec PyProof.Rows L2 Dn
theorem w_calA {T : Nat → Option (List D → R D)} {i j : Nat} {fa : MD (List D)} {e : Lc} {F : List D → R D} {Q : D → Lc → Prop} (h0 : e[i]? = some (some (.fn j))) (hT : T j = some F) (h : Wp fa e fun ds e1 => Ok (F ds) fun r => Q r e1) : Wp (calA T i fa) e Q := by
  obtain ⟨ds, e1, h1, r, h2, h3⟩ := h
  exact ⟨r, e1, by simp only [calA, h0, hT, h1, h2, R.bind_ok, noX, R.at_ok], h3⟩
theorem o_truT {ds : List D} {Q : Bool → Prop} (h : Q (!ds.isEmpty)) : Ok (truR (.tup ds)) Q := ⟨_, rfl, h⟩
/-- what is due -/
def dueB (ds : List D) (sh : D) : Bool := match ds with
  | [_, r, f, s] => liesB r f s sh
  | [_, r, x] => freeB r x sh
  | _ => false
theorem cut1 (w : D) (r : List D) : cutG (w :: r) (some 1) none = r := by
  rw [show (1 : Int) = ((1 : Nat) : Int) from rfl, cut_drop]
  rfl
theorem holds_eq {n k : Nat} {ds : List D} {sh : D} (hn : n ≤ 100) (hs : Parts n k ds) (hh : smallB n k sh = true) : F_holds [.tup ds, sh] = .ok (.bl (dueB ds sh)) := by
  refine o_out ?_
  unfold F_holds
  refine w_runB (e0 := [some (.tup ds), some sh, none, none]) rfl ?_
  unfold m_holds
  obtain ⟨w, rest, rfl, ⟨rfl, hl⟩ | ⟨rfl, hl⟩, hr⟩ := hs
  · match rest, hl with
    | [r, f, s], _ =>
      walk_at "vc"
      refine o_truT ?_
      walk_at "vc"
      refine if_f ?_
      walk_at "vc"
      refine o_eq (a := D.bl false) rfl ?_
      walk_at "vc"
      refine o_eq (a := D.tup [.int 4, .fn 0]) rfl ?_
      walk_at "vc"
      refine if_e (fun _ => ?_) (fun z => absurd rfl z)
      refine w_calA rfl rfl ?_
      walk_at "vc"
      rw [cut1]
      walk_at "vc"
      exact o_eq (claim_lies_eq hn (hr _ (by simp)) (hr _ (by simp)) (hr _ (by simp)) hh) rfl
  · match rest, hl with
    | [r, x], _ =>
      walk_at "vc"
      refine o_truT ?_
      walk_at "vc"
      refine if_f ?_
      walk_at "vc"
      refine o_eq (a := D.bl false) rfl ?_
      walk_at "vc"
      refine o_eq (a := D.tup [.int 3, .fn 1]) rfl ?_
      walk_at "vc"
      refine if_e (fun _ => ?_) (fun z => absurd rfl z)
      refine w_calA rfl rfl ?_
      walk_at "vc"
      rw [cut1]
      walk_at "vc"
      exact o_eq (is_free_eq hn (hr _ (by simp)) (hr _ (by simp)) hh) rfl
theorem due_eq {n k : Nat} {ds : List D} {sh : D} (hn : n ≤ 100) (hs : Parts n k ds) (hh : smallB n k sh = true) : F__law_due [.tup ds, sh] = .ok (.bl (dueB ds sh)) := by
  refine o_out ?_
  unfold F__law_due
  refine w_runB (e0 := [some (.tup ds), some sh]) rfl ?_
  unfold m__law_due
  obtain ⟨w, rest, rfl, ⟨rfl, hl⟩ | ⟨rfl, hl⟩, hr⟩ := hs
  · match rest, hl with
    | [r, f, s], _ =>
      walk_at "vc"
      refine o_eqS ?_
      rw [show (Str.ofString "lies" == Str.ofString "lies") = true from by decide]
      walk_at "vc"
      exact o_eq (law_lies_eq hn (hr _ (by simp)) (hr _ (by simp)) (hr _ (by simp)) hh) rfl
  · match rest, hl with
    | [r, x], _ =>
      walk_at "vc"
      refine o_eqS ?_
      rw [show (Str.ofString "free" == Str.ofString "lies") = false from by decide]
      walk_at "vc"
      exact o_eq (law_free_eq hn (hr _ (by simp)) (hr _ (by simp)) hh) rfl
theorem o_eqB {a b : Bool} {Q : D → Prop} (h : Q (.bl (a == b))) : Ok (eqD (.bl a) (.bl b)) Q := ⟨_, rfl, h⟩
theorem taken_eq {n k : Nat} {ds : List D} {sh : D} {b : Bool} (hn : n ≤ 100) (hs : Parts n k ds) (hh : smallB n k sh = true) (hb : dueB ds sh = b) : F__law_taken [.tup ds, sh, .bl b] = .ok (.bl true) := by
  refine o_out ?_
  unfold F__law_taken
  refine w_runB (e0 := [some (.tup ds), some sh, some (.bl b), none, none]) rfl ?_
  unfold m__law_taken
  have hh' := holds_eq hn hs hh
  rw [hb] at hh'
  walk_at "vc"
  refine o_eq hh' ?_
  walk_at "vc"
  refine o_eq hh' ?_
  walk_at "vc"
  refine w_lcMap (fun _ _ => .bl true) (Nat.le_of_ble_eq_true rfl) ?_
  walk_at "vc"
  refine ⟨rfl, Nat.le_of_ble_eq_true rfl, fun d hd => ?_, ?_⟩
  · have : d = .bl b := by simpa using hd
    subst this
    walk_at "vc"
    refine o_eqB ?_
    exact ⟨rfl, by simp⟩
  · walk_at "vc"
    refine o_eq (a := D.bl true) rfl ?_
    walk_at "vc"
    rfl
end Gk69

namespace Gk69
open PySem PySem.Spec PyProof.Rows L2 Dn
theorem o_abs {i : Int} {Q : D → Prop} (h : ∀ j : Int, 0 ≤ j → Q (.int j)) : Ok (absD [.int i]) Q := ⟨_, rfl, h _ (by split <;> omega)⟩
theorem o_min {i j : Int} {Q : D → Prop} (h : Q (.int (min i j))) : Ok (minD [.int i, .int j]) Q := by
  refine ⟨_, ?_, h⟩
  show R.ok (D.int (if j < i then j else i)) = _
  congr 2
  split <;> omega
theorem o_lenS {ns : List Int} {Q : D → Prop} (h : Q (.int ns.length)) : Ok (lenD [.scr ns]) Q := ⟨_, rfl, h⟩
theorem purse_ok (i : Int) : Ok (F__law_purse [.int i]) fun r => Purse 0 r := by
  unfold F__law_purse
  refine w_runB (e0 := [some (.int i), none]) rfl ?_
  unfold m__law_purse
  walk_at "st"
  walk_at "nx"
  refine w_seq (Wp.mono (P := fun fl e1 => fl = .nx ∧ ∃ j : Int, e1 = [some (.int i), some (.int j)] ∧ 0 ≤ j) ?_ ?_)
  · walk_at "vc"
    refine if_d (fun h => ?_) (fun h => ?_)
    · walk_at "vc"
      refine o_abs fun j hj => ?_
      walk_at "vc"
      exact ⟨rfl, j, rfl, hj⟩
    · walk_at "vc"
      refine if_d (fun h => ?_) (fun h => ?_)
      · walk_at "vc"
        refine o_abs fun j hj => ?_
        walk_at "vc"
        exact ⟨rfl, j, rfl, hj⟩
      · walk_at "vc"
        exact ⟨rfl, 0, rfl, Int.le_refl 0⟩
  · rintro _ _ ⟨rfl, j, rfl, hj⟩
    walk_at "vc"
    exact Purse.mk (by omega) hj (by omega)
theorem cell_ok (ns : List Int) (k : Nat) (hk : k ≤ 100) : Ok (F__law_cell [.scr ns, .int k]) fun r => ∃ i : Int, r = .int i := by
  unfold F__law_cell
  refine w_runB (e0 := [some (.scr ns), some (.int k), none, none]) rfl ?_
  unfold m__law_cell
  walk_at "vc"
  refine o_lenS ?_
  walk_at "vc"
  refine if_d (fun h => ?_) (fun h => ?_)
  · walk_at "vc"
    obtain ⟨i, hi, _⟩ := getSome (ds := ns) (k := k) (by omega)
    refine ⟨.int i, by simp [idxD, atI, ixN_nat (show k < ns.length by omega), hi], ?_⟩
    walk_at "vc"
    exact ⟨i, rfl⟩
  · have ml := mul_le (X := 100) (Y := 100) (x := (k : Int)) (y := (k : Int)) (by omega) (by omega) (by omega) (by omega)
    walk_at "vc"
    refine w_forM (fun ds i e => (∀ d ∈ ds, ∃ j : Int, d = .int j) ∧ ∃ (s : Int) (x3 : Option D), e = [some (.scr ns), some (.int k), some (.int s), x3] ∧ 0 ≤ s ∧ s < 1000000021) ?_
    walk_at "vc"
    refine ⟨_, rfl, ?_⟩
    walk_at "vc"
    refine ⟨⟨?_, _, _, rfl, by omega, by omega⟩, ?_, ?_⟩
    · intro d hd
      obtain ⟨j, _, rfl⟩ := List.mem_map.mp hd
      exact ⟨j, rfl⟩
    · rintro i d e hd ⟨hds, s, x3, rfl, hs0, hs⟩
      obtain ⟨j, rfl⟩ := hds d (List.mem_of_getElem? hd)
      walk_at "vc"
      exact ⟨rfl, hds, _, _, rfl, by omega, by omega⟩
    · rintro e ⟨hds, s, x3, rfl, hs0, hs⟩
      walk_at "vc"
      exact ⟨s, rfl⟩
theorem by_hand_ok : F__law_by_hand [] = .ok (.bl true) := by
  refine o_out ?_
  unfold F__law_by_hand
  refine w_runB (e0 := [none, none, none]) rfl ?_
  unfold m__law_by_hand
  walk_at "vc"
  refine o_mulS (by decide) (by decide) ?_
  walk_at "vc"
  refine o_mulS (by decide) (by decide) ?_
  walk_at "vc"
  refine o_eq (taken_eq (n := 0) (k := 5) (by decide) ?_ ?_ ?_) ?_
  · refine ⟨_, _, rfl, .inl ⟨rfl, rfl⟩, ?_⟩
    rw [← List.all_eq_true]
    decide +kernel
  · decide +kernel
  · decide +kernel
  walk_at "vc"
  refine o_eq (taken_eq (n := 0) (k := 5) (by decide) ?_ ?_ ?_) ?_
  · refine ⟨_, _, rfl, .inl ⟨rfl, rfl⟩, ?_⟩
    rw [← List.all_eq_true]
    decide +kernel
  · decide +kernel
  · decide +kernel
  walk_at "vc"
  rfl
end Gk69

namespace Gk69
open PySem PySem.Spec PyProof.Rows L2 Dn
theorem o_isB {a b : Bool} {Q : D → Prop} (h : Q (.bl (decide (a = b)))) : Ok (isB (.bl a) (.bl b)) Q := ⟨_, rfl, h⟩
theorem right_ok {p : D} (hp : Purse 0 p) : OkI (F__law_right p []) fun r _ => r = .bl true := by
  unfold F__law_right
  refine w_runI (e0 := [some p, none, none, none, none, none]) rfl ?_
  unfold m__law_right
  walk_at "vc"
  refine (laying_ok (g := true) hp (by omega)).mono ?_
  rintro _ p1 ⟨rows, rfl, hrows, hrl, hp1⟩
  walk_at "vc"
  refine w_forM (fun ds i e => (∀ c ∈ ds, Claim c) ∧ ds.length ≤ 1000 ∧ ∃ (p : D) (x2 x3 x4 x5 : Option D), e = [some p, some (.tup rows), x2, x3, x4, x5] ∧ Purse (1200 + 200 * i) p) ?_
  walk_at "vc"
  refine (claims_ok hp1 (by omega) hrows hrl).mono ?_
  rintro _ p2 ⟨cs, rfl, hcs, hcl, hp2⟩
  walk_at "vc"
  refine ⟨⟨hcs, hcl, _, _, _, _, _, rfl, hp2.le (by omega)⟩, ?_, ?_⟩
  · rintro i d e hd ⟨_, _, p, x2, x3, x4, x5, rfl, hp⟩
    have hi : i < cs.length := (List.getElem?_eq_some_iff.mp hd).1
    obtain ⟨ds, sh, rfl, hds, hsh⟩ := hcs d (List.mem_of_getElem? hd)
    walk_at "vc"
    refine o_eq (due_eq (by decide) hds hsh) ?_
    walk_at "vc"
    refine o_eq (taken_eq (by decide) hds hsh rfl) ?_
    walk_at "vc"
    refine (spoilt_ok hp (by omega) hds hsh).mono ?_
    rintro _ p3 ⟨es, sh2, rfl, hes, hsh2, hp3⟩
    walk_at "vc"
    refine o_eq (due_eq (by decide) hes hsh2) ?_
    walk_at "vc"
    refine o_eq (taken_eq (by decide) hes hsh2 rfl) ?_
    walk_at "vc"
    exact ⟨rfl, hcs, hcl, _, _, _, _, _, rfl, hp3.le (by omega)⟩
  · rintro e ⟨_, _, p, x2, x3, x4, x5, rfl, hp⟩
    walk_at "vc"
    refine o_eq (holds_eq (n := 0) (k := 5) (by decide) ?_ ?_) ?_
    · refine ⟨_, _, rfl, .inr ⟨rfl, rfl⟩, ?_⟩
      rw [← List.all_eq_true]
      decide +kernel
    · decide +kernel
    rw [show dueB [D.str (Str.ofString "free"), D.tup [], D.int (10 ^ Int.toNat 40)] (D.tup []) = true from by decide +kernel]
    walk_at "vc"
    refine o_isB ?_
    walk_at "vc"
    refine if_d (fun _ => ?_) (fun z => absurd rfl z)
    walk_at "vc"
    refine o_eq (holds_eq (n := 0) (k := 5) (by decide) ?_ ?_) ?_
    · refine ⟨_, _, rfl, .inr ⟨rfl, rfl⟩, ?_⟩
      rw [← List.all_eq_true]
      decide +kernel
    · decide +kernel
    rw [show dueB [D.str (Str.ofString "free"), D.tup [], D.int 0] D.non = false from by decide +kernel]
    walk_at "vc"
    refine o_isB ?_
    walk_at "vc"
    rfl
theorem law_true (ns : List Int) : F_law [.scr ns] = .ok (.bl true) := by
  refine o_out ?_
  unfold F_law
  refine w_runB (e0 := [some (.scr ns), none]) rfl ?_
  unfold m_law
  walk_at "vc"
  refine o_eq by_hand_ok ?_
  walk_at "vc"
  refine w_lcMap (fun _ _ => .bl true) (Nat.le_of_ble_eq_true rfl) ?_
  walk_at "vc"
  refine o_lenS ?_
  walk_at "vc"
  refine o_min ?_
  walk_at "vc"
  refine o_max ?_
  walk_at "vc"
  refine nat_i (by omega) fun m hm => ?_
  refine ⟨by omega, rfl, by rw [rngL_len]; exact sz1 (by omega), fun d hd => ?_, ?_⟩
  · obtain ⟨j, hj⟩ := List.getElem?_of_mem hd
    obtain ⟨rfl, hj2⟩ := rngL_mem hj
    walk_at "vc"
    refine (cell_ok ns j (by omega)).mono ?_
    rintro _ ⟨i, rfl⟩
    walk_at "vc"
    refine (purse_ok i).mono ?_
    intro r hr
    have hr2 := hr
    obtain ⟨a, b, c, rfl, _⟩ := hr2
    walk_at "vc"
    refine (right_ok hr).mono ?_
    rintro _ p3 rfl
    walk_at "vc"
    exact ⟨rfl, rfl⟩
  · walk_at "vc"
    refine o_eq (a := D.bl true) ?_ ?_
    · obtain ⟨_, h1, h2⟩ := o_all (ds := rngL 0 m) (p := fun _ => true) (Q := fun r => r = .bl true) (by simp)
      rw [h2] at h1
      exact h1
    walk_at "vc"
    rfl
end Gk69

open PySem PySem.W PySem.Calls PyProof.Rows
theorem PySem.Challenge.cw_endlessinn_k69_rooms_judged_holds : PySem.Challenge.rw_endlessinn_k69_rooms_judged.Holds := by
  w_on; o_law
  refine HandSHeadRun.head_any (r := OpenLaw.row PySem.Challenge.rw_endlessinn_k69_rooms_judged) (q := view (OpenLaw.row PySem.Challenge.rw_endlessinn_k69_rooms_judged).prog [73]) (H := Gk69.hk) (ob := Gk69.ob) (M := 20000) (loose := Gk69.looseL) (d := HandSHeadRun.topDef (OpenLaw.row PySem.Challenge.rw_endlessinn_k69_rooms_judged).prog 73) (kwd := []) Gk69.ob_eq
    (by kernel_rfl) (fun s => by kernel_rfl) Gk69.run (by kernel_rfl) (by kernel_rfl) (by kernel_rfl) (by rfl) (by first | assumption | decide +kernel) (by decide +kernel) ⟨rfl, rfl, rfl, rfl, rfl, by decide +kernel⟩ ?hw ?hc
  case hw => w_witness2
  case hc =>
    refine L2.walk_ofE (l := PySem.Challenge.rw_endlessinn_k69_rooms_judged) (n := 63) (k := 18) (x := "_law_script") (CX := L2.CX0) rfl (by decide) (by kernel_rfl) ⟨rfl, by decide, by decide⟩ ?F (fun _ _ _ _ z => z)
    intro w mg fa h Y G hmg0
    obtain ⟨K, KX, c⟩ := Y
    have hmg : mg ("law" : PySem.Str) = some (.ref fa) := by
      have e : (HandSHeadRun.topDef (OpenLaw.row PySem.Challenge.rw_endlessinn_k69_rooms_judged).prog 73).name = ("law" : PySem.Str) := by kernel_rfl
      rw [← e]
      exact hmg0
    have E : Gk69.MG w K mg := Gk69.mg_of KX G c
    have e2 := hmg.symm.trans E.gf_law
    cases e2
    obtain ⟨fd, F⟩ := E.fd_law
    have b := L2.FunD.bindsA (ps := ["_law_script"]) F fun _ _ _ _ _ _ us hl => match us, hl with | [_], _ => rfl
    exact ⟨K, fd, _, KX, fun s v => b s [v] rfl, fun H a ns _ hO hS => Dn.law_sp hO hS (Gk69.law_true ns), fun base _ _ => Gk69.fo_law E F⟩
