import PyProof.Rows.All
import Wide.All
import OpenK.AllK
import Wide.FinOn
import HandS.ForMost
import HandS.ForExc
import HandS.Wide
import HandS.TupAny
import HandS.TupMul
import HandS.IsInst
import HandS.Deep
import HandS.Sort
import HandS.SortInts
import HandS.WideBits
import HandS.Style
import HandS.WideMore
import HandS.Zip
import KE.GoesEnum
import HandS.CallSlots
import HandS.Defaults
import HandS.MakeKwOnly
import HandS.CallLocal
import HandS.HeadEnd
import HandS.Conv
import HandS.More
import HandS.TupLen
import HandS.Text
import HandS.MakeKw
import HandS.Words
import HandS.Head0
import HandS.Head1
import HandS.Head2
import HandS.HeadHook1
import HandS.HeadHook2
import HandS.HeadHook3
import HandS.HeadHook4
import PyProof.ReprRoads
import PyProof.CallFns
import HandS.Rev
import HandS.SortKw
import HandS.SetFor
import HandS.Set
import HandS.Strs
import HandS.SortRule
import KE.DatumOrd
import HandS.DictComp
import PySem.Challenge.RW_endlessinn_k71_likeness_judged
import KE.KStrOpen
import PyProof.ReprLen
import HandS.HeadWalk
import Wide.Once
set_option Elab.async false
set_option linter.all false
set_option autoImplicit false
set_option maxRecDepth 100000
set_option maxHeartbeats 4000000
/-! Den: Python data as plain data, defs as plain functions over it -/
namespace Dn
open PySem PySem.Spec PyProof.Rows L2

/-! ### data -/
inductive D where
  | non | bl (b : Bool) | int (i : Int) | str (x : Str) | tup (xs : List D) | lst (xs : List D) | dct (ks : List Key) (vs : List D) | fn (j : Nat) | scr (ns : List Int)
structure Ex where
  cls : Nat
  fs : List D
abbrev Lc := List (Option D)
inductive R (α : Type) where
  | ok (a : α) | exc (x : Ex) (e : Lc) | bad
def R.bind {α β : Type} (r : R α) (k : α → R β) : R β := match r with
  | .ok a => k a
  | .exc x e => .exc x e
  | .bad => .bad
def R.at {α : Type} (r : R α) (e : Lc) : R (α × Lc) := match r with
  | .ok a => .ok (a, e)
  | .exc x _ => .exc x e
  | .bad => .bad
@[simp] theorem R.bind_ok {α β : Type} (a : α) (k : α → R β) : (R.ok a).bind k = k a := rfl
@[simp] theorem R.bind_exc {α β : Type} (x : Ex) (e : Lc) (k : α → R β) : (R.exc x e).bind k = .exc x e := rfl
@[simp] theorem R.bind_bad {α β : Type} (k : α → R β) : (R.bad).bind k = .bad := rfl
@[simp] theorem R.at_ok {α : Type} (a : α) (e : Lc) : (R.ok a).at e = .ok (a, e) := rfl
@[simp] theorem R.at_exc {α : Type} (x : Ex) (e e' : Lc) : (R.exc x e' : R α).at e = .exc x e := rfl
@[simp] theorem R.at_bad {α : Type} (e : Lc) : (R.bad : R α).at e = .bad := rfl
/-- what a run gives satisfies P, what it raises E; it isn't bad -/
def Out {α : Type} (P : α → Prop) (E : Ex → Lc → Prop) : R α → Prop
  | .ok a => P a
  | .exc x e => E x e
  | .bad => False
theorem Out.bind {α β : Type} {P : β → Prop} {E : Ex → Lc → Prop} {r : R α} {k : α → R β} (h : Out P E (r.bind k)) : Out (fun a => Out P E (k a)) E r := by
  cases r <;> exact h
theorem Out.imp {α : Type} {P P' : α → Prop} {E E' : Ex → Lc → Prop} {r : R α} (h : Out P E r) (hp : ∀ a, P a → P' a) (he : ∀ x e, E x e → E' x e) : Out P' E' r := by
  cases r with
  | ok a => exact hp a h
  | exc x e => exact he x e h
  | bad => exact h

/-! ### what a datum is in the heap -/
structure Kx where
  K : PySem.W.Frag
  fn : Nat → Option Addr
  cl : Nat → Value → Prop
mutual
def IsD (k : Kx) (H : Hp) (M : Addr → Prop) : D → V → Prop
  | .non, v => v = .non
  | .bl b, v => v = .bl b
  | .int i, v => v = .int i
  | .str x, v => v = .str x
  | .tup ds, v => ∃ a vs, v = .ref a ∧ SqT k.K H a vs ∧ IsDs k H M ds vs
  | .lst ds, v => ∃ a vs, v = .ref a ∧ H a = some (.lst vs) ∧ ¬ M a ∧ IsDs k H M ds vs
  | .dct ks ds, v => ∃ a kvs, v = .ref a ∧ H a = some (.dK kvs) ∧ ¬ M a ∧ kvs.map (·.1) = ks ∧ IsDs k H M ds (kvs.map (·.2))
  | .fn j, v => ∃ a, v = .ref a ∧ k.fn j = some a
  | .scr ns, v => ∃ a, v = .ref a ∧ ∀ H' : Hp, (∀ o u, H a = some (.frz o u) → H' a = some (.frz o u)) → SqL k.K H' a (ns.map V.int)
def IsDs (k : Kx) (H : Hp) (M : Addr → Prop) : List D → List V → Prop
  | [], vs => vs = []
  | d :: ds, vs => ∃ v r, vs = v :: r ∧ IsD k H M d v ∧ IsDs k H M ds r
end
/-- objects that never change -/
def Fx : HO → Prop
  | .tup _ => True
  | .frz _ _ => True
  | _ => False
def Ext (M : Addr → Prop) (H H' : Hp) : Prop := ∀ a o, H a = some o → (¬ M a ∨ Fx o) → H' a = some o
theorem Ext.refl (M : Addr → Prop) (H : Hp) : Ext M H H := fun _ _ h _ => h
theorem Ext.trans {M : Addr → Prop} {H H1 H2 : Hp} (a : Ext M H H1) (b : Ext M H1 H2) : Ext M H H2 := fun c o h n => b c o (a c o h n) n
theorem Ext.sqT {M : Addr → Prop} {K : PySem.W.Frag} {H H' : Hp} {a : Addr} {vs : List V} (x : Ext M H H') (h : SqT K H a vs) : SqT K H' a vs := by
  rcases h with (h | ⟨o, h⟩) | h
  · exact .inl (.inl (x _ _ h (.inr trivial)))
  · exact .inl (.inr ⟨o, x _ _ h (.inr trivial)⟩)
  · exact .inr h
theorem Ext.rd {M : Addr → Prop} {H H' : Hp} {a : Addr} {u : HO} (x : Ext M H H') (h : Rd H a u) (n : ¬ M a) : Rd H' a u := by
  rcases h with h | ⟨o, h⟩
  · exact .inl (x _ _ h (.inl n))
  · exact .inr ⟨o, x _ _ h (.inl n)⟩
mutual
theorem IsD.step {k : Kx} {H H' : Hp} {M M' : Addr → Prop} (x : Ext M H H') (m : ∀ a, M' a → M a ∨ H a = none) : ∀ (d : D) (v : V), IsD k H M d v → IsD k H' M' d v
  | .non, _, h => h
  | .bl _, _, h => h
  | .int _, _, h => h
  | .str _, _, h => h
  | .tup ds, v, ⟨a, vs, e, hs, h⟩ => ⟨a, vs, e, x.sqT hs, IsDs.step x m ds vs h⟩
  | .lst ds, v, ⟨a, vs, e, hs, n, h⟩ => ⟨a, vs, e, x a _ hs (.inl n), fun z => (m a z).elim n fun z => (by
      rw [z] at hs
      cases hs), IsDs.step x m ds vs h⟩
  | .dct ks ds, v, ⟨a, kvs, e, hs, n, ek, h⟩ => ⟨a, kvs, e, x a _ hs (.inl n), fun z => (m a z).elim n fun z => (by
      rw [z] at hs
      cases hs), ek, IsDs.step x m ds _ h⟩
  | .fn _, _, h => h
  | .scr ns, v, ⟨a, e, hs⟩ => ⟨a, e, fun H2 h2 => hs H2 fun o u q => h2 o u (x a _ q (.inr trivial))⟩
theorem IsDs.step {k : Kx} {H H' : Hp} {M M' : Addr → Prop} (x : Ext M H H') (m : ∀ a, M' a → M a ∨ H a = none) : ∀ (ds : List D) (vs : List V), IsDs k H M ds vs → IsDs k H' M' ds vs
  | [], _, h => h
  | d :: ds, vs, ⟨v, r, e, h1, h2⟩ => ⟨v, r, e, IsD.step x m d v h1, IsDs.step x m ds r h2⟩
end
theorem IsD.mono {k : Kx} {H : Hp} {M M' : Addr → Prop} {d : D} {v : V} (h : IsD k H M d v) (m : ∀ a, M' a → M a) : IsD k H M' d v := IsD.step (Ext.refl _ _) (fun a z => .inl (m a z)) d v h
theorem IsDs.mono {k : Kx} {H : Hp} {M M' : Addr → Prop} {ds : List D} {vs : List V} (h : IsDs k H M ds vs) (m : ∀ a, M' a → M a) : IsDs k H M' ds vs := IsDs.step (Ext.refl _ _) (fun a z => .inl (m a z)) ds vs h
theorem IsDs.length {k : Kx} {H : Hp} {M : Addr → Prop} : ∀ {ds : List D} {vs : List V}, IsDs k H M ds vs → vs.length = ds.length
  | [], _, h => by rw [show _ = [] from h]; rfl
  | d :: ds, vs, ⟨v, r, e, _, h2⟩ => by rw [e, List.length_cons, List.length_cons, IsDs.length h2]
theorem IsDs.get {k : Kx} {H : Hp} {M : Addr → Prop} : ∀ {ds : List D} {vs : List V} {i : Nat} {d : D}, IsDs k H M ds vs → ds[i]? = some d → ∃ v, vs[i]? = some v ∧ IsD k H M d v
  | [], _, _, _, _, e => by simp at e
  | d :: ds, vs, 0, d', ⟨v, r, e, h1, h2⟩, e' => by
    simp at e'
    subst e' e
    exact ⟨v, rfl, h1⟩
  | d :: ds, vs, i + 1, d', ⟨v, r, e, h1, h2⟩, e' => by
    subst e
    obtain ⟨v', a, b⟩ := IsDs.get (i := i) (d := d') h2 (by simpa using e')
    exact ⟨v', by simpa using a, b⟩
theorem IsDs.nil {k : Kx} {H : Hp} {M : Addr → Prop} : IsDs k H M [] [] := rfl
theorem IsDs.cons {k : Kx} {H : Hp} {M : Addr → Prop} {d : D} {ds : List D} {v : V} {vs : List V} (h : IsD k H M d v) (t : IsDs k H M ds vs) : IsDs k H M (d :: ds) (v :: vs) := ⟨v, vs, rfl, h, t⟩
theorem IsDs.app {k : Kx} {H : Hp} {M : Addr → Prop} : ∀ {ds es : List D} {vs ws : List V}, IsDs k H M ds vs → IsDs k H M es ws → IsDs k H M (ds ++ es) (vs ++ ws)
  | [], _, _, _, h, t => by
    rw [show _ = [] from h]
    exact t
  | d :: ds, es, vs, ws, ⟨v, r, e, h1, h2⟩, t => by
    subst e
    exact ⟨v, r ++ ws, rfl, h1, IsDs.app h2 t⟩
theorem IsDs.drop {k : Kx} {H : Hp} {M : Addr → Prop} : ∀ {ds : List D} {vs : List V} (n : Nat), IsDs k H M ds vs → IsDs k H M (ds.drop n) (vs.drop n)
  | [], _, n, h => by
    rw [show _ = [] from h]
    simp [IsDs]
  | d :: ds, vs, 0, h => h
  | d :: ds, vs, n + 1, ⟨v, r, e, _, h2⟩ => by
    subst e
    exact IsDs.drop n h2
theorem IsDs.take {k : Kx} {H : Hp} {M : Addr → Prop} : ∀ {ds : List D} {vs : List V} (n : Nat), IsDs k H M ds vs → IsDs k H M (ds.take n) (vs.take n)
  | [], _, n, h => by
    rw [show _ = [] from h]
    simp [IsDs]
  | d :: ds, vs, 0, h => rfl
  | d :: ds, vs, n + 1, ⟨v, r, e, h1, h2⟩ => by
    subst e
    exact ⟨v, r.take n, rfl, h1, IsDs.take n h2⟩
theorem IsDs.set {k : Kx} {H : Hp} {M : Addr → Prop} {d : D} {v : V} (h : IsD k H M d v) : ∀ {ds : List D} {vs : List V} (n : Nat), IsDs k H M ds vs → IsDs k H M (ds.set n d) (vs.set n v)
  | [], _, n, h => by
    rw [show _ = [] from h]
    simp [IsDs]
  | _ :: ds, vs, 0, ⟨v', r, e, h1, h2⟩ => by
    subst e
    exact ⟨v, r, rfl, h, h2⟩
  | d' :: ds, vs, n + 1, ⟨v', r, e, h1, h2⟩ => by
    subst e
    exact ⟨v', r.set n v, rfl, h1, IsDs.set h n h2⟩
theorem IsDs.rev {k : Kx} {H : Hp} {M : Addr → Prop} : ∀ {ds : List D} {vs : List V}, IsDs k H M ds vs → IsDs k H M ds.reverse vs.reverse
  | [], _, h => by
    rw [show _ = [] from h]
    exact rfl
  | d :: ds, vs, ⟨v, r, e, h1, h2⟩ => by
    subst e
    rw [List.reverse_cons, List.reverse_cons]
    exact (IsDs.rev h2).app (.cons h1 .nil)

/-- as IsD, but a list or dict may be one's own -/
def era (H : Hp) (q : Addr) : Hp := fun b => if b = q then none else H b
theorem era_same {H : Hp} {q : Addr} : era H q q = none := by
  unfold era
  rw [if_pos rfl]
theorem era_ne {H : Hp} {q b : Addr} (h : b ≠ q) : era H q b = H b := by
  unfold era
  rw [if_neg h]
theorem era_upd {H : Hp} {q : Addr} {o : HO} (h : H q = some o) : upd (era H q) q o = H := by
  funext b
  by_cases e : b = q
  · subst e
    rw [upd_same, h]
  · rw [upd_ne e, era_ne e]
mutual
theorem IsD.era {k : Kx} {H : Hp} {M M' : Addr → Prop} {q : Addr} {o : HO} (hq : H q = some o) (ho : ¬ Fx o) (hM : M q) (hm : ∀ a, M' a → M a) : ∀ (d : D) (v : V), IsD k H M d v → IsD k (era H q) M' d v
  | .non, _, h => h
  | .bl _, _, h => h
  | .int _, _, h => h
  | .str _, _, h => h
  | .tup ds, v, ⟨a, vs, e, hs, h⟩ => by
    have fx : ∀ {a u}, H a = some u → Fx u → Dn.era H q a = some u := fun {a u} h f => by
      rw [era_ne]
      · exact h
      · intro z
        rw [z, hq] at h
        cases h
        exact ho f
    refine ⟨a, vs, e, ?_, IsDs.era hq ho hM hm ds vs h⟩
    rcases hs with (hs | ⟨ob, hs⟩) | hs
    · exact .inl (.inl (fx hs trivial))
    · exact .inl (.inr ⟨ob, fx hs trivial⟩)
    · exact .inr hs
  | .lst ds, v, ⟨a, vs, e, hs, n, h⟩ => ⟨a, vs, e, by rw [era_ne (fun z => n (by rw [z]; exact hM))]; exact hs, fun z => n (hm a z), IsDs.era hq ho hM hm ds vs h⟩
  | .dct ks ds, v, ⟨a, kvs, e, hs, n, ek, h⟩ => ⟨a, kvs, e, by rw [era_ne (fun z => n (by rw [z]; exact hM))]; exact hs, fun z => n (hm a z), ek, IsDs.era hq ho hM hm ds _ h⟩
  | .fn _, _, h => h
  | .scr ns, v, ⟨a, e, hs⟩ => ⟨a, e, fun H2 h2 => hs H2 fun ob u z => h2 ob u (by
      rw [era_ne]
      · exact z
      · intro y
        rw [y, hq] at z
        cases z
        exact ho trivial)⟩
theorem IsDs.era {k : Kx} {H : Hp} {M M' : Addr → Prop} {q : Addr} {o : HO} (hq : H q = some o) (ho : ¬ Fx o) (hM : M q) (hm : ∀ a, M' a → M a) : ∀ (ds : List D) (vs : List V), IsDs k H M ds vs → IsDs k (Dn.era H q) M' ds vs
  | [], _, h => h
  | d :: ds, vs, ⟨v, r, e, h1, h2⟩ => ⟨v, r, e, IsD.era hq ho hM hm d v h1, IsDs.era hq ho hM hm ds r h2⟩
end
theorem era_new {H : Hp} {q : Addr} {o : HO} (h : H q = none) : era (upd H q o) q = H := by
  funext b
  by_cases e : b = q
  · subst e
    rw [era_same, h]
  · rw [era_ne e, upd_ne e]
def IsT (k : Kx) (H : Hp) (M : Addr → Prop) : D → V → Prop
  | .lst ds, v => ∃ a vs, v = .ref a ∧ H a = some (.lst vs) ∧ IsDs k H M ds vs
  | .dct ks ds, v => ∃ a kvs, v = .ref a ∧ H a = some (.dK kvs) ∧ kvs.map (·.1) = ks ∧ IsDs k H M ds (kvs.map (·.2))
  | d, v => IsD k H M d v
theorem IsD.t {k : Kx} {H : Hp} {M : Addr → Prop} {d : D} {v : V} (h : IsD k H M d v) : IsT k H M d v := by
  cases d with
  | lst ds =>
    obtain ⟨a, vs, e, h1, _, h2⟩ := h
    exact ⟨a, vs, e, h1, h2⟩
  | dct ks ds =>
    obtain ⟨a, vs, e, h1, _, h2⟩ := h
    exact ⟨a, vs, e, h1, h2⟩
  | _ => exact h
def IsTs (k : Kx) (H : Hp) (M : Addr → Prop) : List D → List V → Prop
  | [], vs => vs = []
  | d :: ds, vs => ∃ v r, vs = v :: r ∧ IsT k H M d v ∧ IsTs k H M ds r
theorem IsDs.t {k : Kx} {H : Hp} {M : Addr → Prop} : ∀ {ds : List D} {vs : List V}, IsDs k H M ds vs → IsTs k H M ds vs
  | [], _, h => h
  | _ :: _, _, ⟨v, r, e, h1, h2⟩ => ⟨v, r, e, h1.t, h2.t⟩

/-! ### a body's static part, its states -/
structure Ct where
  k : Kx
  own : List Nat
  par : Option Addr
  M : Addr → Prop
  H0 : Hp
  W : WX
  nw : Bool
def OW (C : Ct) (σ : L2.St) (a : Addr) : Prop := ∃ i, i ∈ C.own ∧ σ[i]? = some (some (.ref a))
def MO (C : Ct) (σ : L2.St) (a : Addr) : Prop := C.M a ∨ OW C σ a
theorem Ext.mo {C : Ct} {σ : L2.St} {H H' : Hp} (x : Ext (OW C σ) H H') : Ext (MO C σ) H H' := fun a o h n => x a o h (n.imp (fun n z => n (.inr z)) id)
def OwnD (k : Kx) (H : Hp) (M : Addr → Prop) : D → Addr → Prop
  | .lst ds, a => ∃ vs, H a = some (.lst vs) ∧ IsDs k H M ds vs
  | .dct ks ds, a => ∃ kvs, H a = some (.dK kvs) ∧ kvs.map (·.1) = ks ∧ IsDs k H M ds (kvs.map (·.2))
  | _, _ => False
theorem OwnD.t {k : Kx} {H : Hp} {M : Addr → Prop} {d : D} {a : Addr} (h : OwnD k H M d a) : IsT k H M d (.ref a) := by
  cases d with
  | lst ds =>
    obtain ⟨vs, h1, h2⟩ := h
    exact ⟨a, vs, rfl, h1, h2⟩
  | dct ks ds =>
    obtain ⟨kvs, h1, h2, h3⟩ := h
    exact ⟨a, kvs, rfl, h1, h2, h3⟩
  | _ => exact h.elim
theorem OwnD.era {k : Kx} {H : Hp} {M M' : Addr → Prop} {q : Addr} {o : HO} (hq : H q = some o) (ho : ¬ Fx o) (hM : M q) (hm : ∀ a, M' a → M a) {d : D} {a : Addr} (h : OwnD k H M d a) (ha : a ≠ q) : OwnD k (Dn.era H q) M' d a := by
  cases d with
  | lst ds =>
    obtain ⟨vs, h1, h2⟩ := h
    exact ⟨vs, by rw [era_ne ha]; exact h1, IsDs.era hq ho hM hm _ _ h2⟩
  | dct ks ds =>
    obtain ⟨kvs, h1, h2, h3⟩ := h
    exact ⟨kvs, by rw [era_ne ha]; exact h1, h2, IsDs.era hq ho hM hm _ _ h3⟩
  | _ => exact h.elim
structure SR (C : Ct) (e : Lc) (σ : L2.St) (H : Hp) : Prop where
  len : e.length = σ.length
  val : ∀ i d, i ∉ C.own → e[i]? = some (some d) → ∃ v, σ[i]? = some (some v) ∧ IsD C.k H (MO C σ) d v
  ow : ∀ i d, i ∈ C.own → e[i]? = some (some d) → ∃ a, σ[i]? = some (some (.ref a)) ∧ OwnD C.k H (MO C σ) d a
  dist : ∀ i j a, i ∈ C.own → j ∈ C.own → σ[i]? = some (some (.ref a)) → σ[j]? = some (some (.ref a)) → i = j
  fr : ∀ i a, i ∈ C.own → σ[i]? = some (some (.ref a)) → C.H0 a = none ∨ C.par = some a
  ext : ∀ a o, C.H0 a = some o → (C.par ≠ some a ∨ Fx o) → H a = some o
  al : ∀ a, C.M a → ∃ o, H a = some o
  nm : ∀ i a, i ∈ C.own → σ[i]? = some (some (.ref a)) → ¬ C.M a ∨ C.par = some a
  alo : ∀ i a, i ∈ C.own → σ[i]? = some (some (.ref a)) → ∃ o, H a = some o
  p0 : ∀ a, C.par = some a → σ[0]? = some (some (.ref a))
  pm : ∀ a, C.par = some a → ∃ o, H a = some o
/-- a step of a body: what isn't owned stays; what is owned was, or is new -/
structure Stp (C : Ct) (σ : L2.St) (H : Hp) (σ' : L2.St) (H' : Hp) : Prop where
  ex : Ext (OW C σ) H H'
  ow : ∀ a, OW C σ' a → OW C σ a ∨ H a = none
theorem Stp.mo {C : Ct} {σ σ1 : L2.St} {H H1 : Hp} (a : Stp C σ H σ1 H1) : ∀ b, MO C σ1 b → MO C σ b ∨ H b = none := fun b z => by
  rcases z with z | z
  · exact .inl (.inl z)
  · exact (a.ow b z).imp .inr id
theorem Stp.refl {C : Ct} {σ : L2.St} {H : Hp} : Stp C σ H σ H := ⟨Ext.refl _ _, fun _ z => .inl z⟩
theorem Stp.trans {C : Ct} {σ σ1 σ2 : L2.St} {H H1 H2 : Hp} (a : Stp C σ H σ1 H1) (b : Stp C σ1 H1 σ2 H2) : Stp C σ H σ2 H2 := by
  refine ⟨fun c o h n => ?_, fun c z => ?_⟩
  · have h1 := a.ex c o h n
    refine b.ex c o h1 ?_
    rcases n with n | n
    · refine .inl fun z => ?_
      rcases a.ow c z with z | z
      · exact n z
      · rw [h] at z
        cases z
    · exact .inr n
  · rcases b.ow c z with z | z
    · exact a.ow c z
    · cases e : H c with
      | none => exact .inr rfl
      | some o =>
        refine .inl (Classical.byContradiction fun n => ?_)
        rw [a.ex c o e (.inl n)] at z
        cases z
theorem Stp.isD {C : Ct} {σ σ' : L2.St} {H H' : Hp} (a : Stp C σ H σ' H') {d : D} {v : V} (h : IsD C.k H (MO C σ) d v) : IsD C.k H' (MO C σ') d v := IsD.step a.ex.mo a.mo d v h
theorem Stp.isDs {C : Ct} {σ σ' : L2.St} {H H' : Hp} (a : Stp C σ H σ' H') {ds : List D} {vs : List V} (h : IsDs C.k H (MO C σ) ds vs) : IsDs C.k H' (MO C σ') ds vs := IsDs.step a.ex.mo a.mo ds vs h
theorem Stp.of {C : Ct} {σ : L2.St} {H H' : Hp} (x : Ext (OW C σ) H H') : Stp C σ H σ H' := ⟨x, fun _ z => .inl z⟩
theorem Ext.upd {M : Addr → Prop} {H : Hp} {p : Addr} {o : HO} (h : H p = none) : Ext M H (upd H p o) := fun a u e _ => by
  rw [upd_ne (ne_of_none e h)]
  exact e
theorem SR.mod {C : Ct} {e : Lc} {σ : L2.St} {H : Hp} (s : SR C e σ H) {a : Addr} (h : MO C σ a) : ∃ o, H a = some o := by
  rcases h with h | ⟨i, hi, h⟩
  · exact s.al a h
  · exact s.alo i a hi h
theorem OwnD.step {k : Kx} {H H' : Hp} {M M' : Addr → Prop} (x : Ext M H H') (m : ∀ a, M' a → M a ∨ H a = none) {d : D} {a : Addr} (h : OwnD k H M d a) (ha : ∀ o, H a = some o → H' a = some o) : OwnD k H' M' d a := by
  cases d with
  | lst ds =>
    obtain ⟨vs, h1, h2⟩ := h
    exact ⟨vs, ha _ h1, IsDs.step x m _ _ h2⟩
  | dct ks ds =>
    obtain ⟨kvs, h1, h2, h3⟩ := h
    exact ⟨kvs, ha _ h1, h2, IsDs.step x m _ _ h3⟩
  | _ => exact h
/-- a new object -/
theorem SR.grow {C : Ct} {e : Lc} {σ : L2.St} {H : Hp} (s : SR C e σ H) {p : Addr} {o : HO} (hp : H p = none) : SR C e σ (upd H p o) := by
  have x : Ext (MO C σ) H (upd H p o) := Ext.upd hp
  have k : ∀ a u, H a = some u → upd H p o a = some u := fun a u q => by
    rw [upd_ne (ne_of_none q hp)]
    exact q
  refine ⟨s.len, fun i d hi he => ?_, fun i d hi he => ?_, s.dist, s.fr, fun a u q n => k _ _ (s.ext a u q n), fun a h => (s.al a h).imp fun u q => k _ _ q, s.nm, fun i a hi h => ?_, s.p0, fun a h => ?_⟩
  · obtain ⟨v, h1, h2⟩ := s.val i d hi he
    exact ⟨v, h1, IsD.step x (fun _ z => .inl z) _ _ h2⟩
  · obtain ⟨a, h1, h2⟩ := s.ow i d hi he
    exact ⟨a, h1, OwnD.step x (fun _ z => .inl z) h2 (k a)⟩
  · obtain ⟨u, q⟩ := s.alo i a hi h
    exact ⟨u, k _ _ q⟩
  · obtain ⟨u, q⟩ := s.pm a h
    exact ⟨u, k _ _ q⟩
/-- all that stood stands -/
theorem SR.same {C : Ct} {e : Lc} {σ : L2.St} {H H' : Hp} (s : SR C e σ H) (k : Same H H') : SR C e σ H' := by
  have x : Ext (MO C σ) H H' := fun a o h _ => k a o h
  refine ⟨s.len, fun i d hi he => ?_, fun i d hi he => ?_, s.dist, s.fr, fun a u q n => k _ _ (s.ext a u q n), fun a h => (s.al a h).imp fun u q => k _ _ q, s.nm, fun i a hi h => ?_, s.p0, fun a h => ?_⟩
  · obtain ⟨v, h1, h2⟩ := s.val i d hi he
    exact ⟨v, h1, IsD.step x (fun _ z => .inl z) _ _ h2⟩
  · obtain ⟨a, h1, h2⟩ := s.ow i d hi he
    exact ⟨a, h1, OwnD.step x (fun _ z => .inl z) h2 (k a)⟩
  · obtain ⟨u, q⟩ := s.alo i a hi h
    exact ⟨u, k _ _ q⟩
  · obtain ⟨u, q⟩ := s.pm a h
    exact ⟨u, k _ _ q⟩
theorem same_ext {M : Addr → Prop} {H H' : Hp} (k : Same H H') : Ext M H H' := fun a o h _ => k a o h
end Dn

namespace Dn
open PySem PySem.Spec PyProof.Rows L2

/-! ### runs -/
abbrev MD (α : Type) := Lc → R (α × Lc)
def ExR (k : Kx) (M : Addr → Prop) (x : Ex) (cls : Value) (xd : Option Addr) (H : Hp) : Prop := k.cl x.cls cls ∧ ((x.fs = [] ∧ xd = none) ∨ ∃ d fs, xd = some d ∧ H d = some (.xd fs) ∧ IsDs k H M x.fs (fs.map (·.2)))
def XO (C : Ct) (σ : L2.St) (H : Hp) : Ex → Lc → Prop := fun x e => ∀ cls xd H', Ext (OW C σ) H H' → SR C e σ H' → ExR C.k (MO C σ) x cls xd H' → C.W cls xd σ H'
def PO1 (C : Ct) (σ : L2.St) (H : Hp) (Q : VK) : D × Lc → Prop := fun p => ∀ v H', Ext (OW C σ) H H' → SR C p.2 σ H' → IsD C.k H' (MO C σ) p.1 v → Q v H'
def OE (C : Ct) (σ : L2.St) (H : Hp) (Q : VK) (r : R (D × Lc)) : Prop := Out (PO1 C σ H Q) (XO C σ H) r
def tE (C : Ct) (f : MD D) : TE := fun σ H Q => ∃ e, SR C e σ H ∧ OE C σ H Q (f e)
def OT (C : Ct) (σ : L2.St) (H : Hp) (Q : Bool → Hp → Prop) (r : R (Bool × Lc)) : Prop := Out (fun p => ∀ H', Ext (OW C σ) H H' → SR C p.2 σ H' → Q p.1 H') (XO C σ H) r
def tT (C : Ct) (f : MD Bool) : TT := fun σ H Q => ∃ e, SR C e σ H ∧ OT C σ H Q (f e)
def OA (C : Ct) (σ : L2.St) (H : Hp) (Q : List V → Hp → Prop) (r : R (List D × Lc)) : Prop := Out (fun p => ∀ vs H', Ext (OW C σ) H H' → SR C p.2 σ H' → IsDs C.k H' (MO C σ) p.1 vs → Q vs H') (XO C σ H) r
def tA (C : Ct) (f : MD (List D)) : TA := fun σ H Q => ∃ e, SR C e σ H ∧ OA C σ H Q (f e)

section
variable {X : Cx} {C : Ct}
theorem PE.imp {e : Expr} {t t' : TE} (h : PE X e t) (i : ∀ σ H Q, t' σ H Q → t σ H Q) : PE X e t' := ⟨fun pins s σ H Q I hw => h.run pins s σ H Q I (i σ H Q hw)⟩
theorem PT.imp {e : Expr} {t t' : TT} (h : PT X e t) (i : ∀ σ H Q, t' σ H Q → t σ H Q) : PT X e t' := ⟨fun pins s σ H Q I hw => h.run pins s σ H Q I (i σ H Q hw)⟩
theorem PA.imp {e : List Expr} {t t' : TA} (h : PA X e t) (i : ∀ σ H Q, t' σ H Q → t σ H Q) : PA X e t' := ⟨fun pos pins s σ H Q I hw => h.run pos pins s σ H Q I (i σ H Q hw)⟩
theorem PS.imp {e : Stmt} {t t' : TS} (h : PS X e t) (i : ∀ D σ H, t' D σ H → t D σ H) : PS X e t' := ⟨fun pins s σ H D I hw => h.run pins s σ H D I (i D σ H hw)⟩
theorem PSs.imp {e : List Stmt} {t t' : TS} (h : PSs X e t) (i : ∀ D σ H, t' D σ H → t D σ H) : PSs X e t' := ⟨fun pins s σ H D I hw => h.run pins s σ H D I (i D σ H hw)⟩
theorem XO.ext {σ : L2.St} {H H1 : Hp} {x : Ex} {e : Lc} (h : XO C σ H x e) (a : Ext (OW C σ) H H1) : XO C σ H1 x e := fun cls xd H' b => h cls xd H' (a.trans b)

/-! ### names, constants -/
def vr (i : Nat) : MD D := fun e => match e[i]? with
  | some (some d) => .ok (d, e)
  | _ => .bad
def cst (d : D) : MD D := fun e => .ok (d, e)
theorem je_var {i : Nat} {x : Str} {pos : Pos} (ho : i ∉ C.own) (hN : X.N[i]? = some x) (hv : Vis X.env.scope x) (hd : (x == ("__debug__" : Str)) = false := by decide) (hcd : (x == ("__classdict__" : Str)) = false := by decide) : PE X (.Name x pos) (tE C (vr i)) := by
  refine PE.imp (pe_var hN hv hd hcd) fun σ H Q ⟨e, s, o⟩ => ?_
  unfold vr at o
  split at o
  · rename_i d he
    obtain ⟨v, h1, h2⟩ := s.val i d ho he
    exact ⟨v, h1, o v H (Ext.refl _ _) s h2⟩
  · exact o.elim
/-- a value that is a datum in every heap -/
theorem je_cst {e : Expr} {v : V} {d : D} (h : PE X e (tC v)) (hd : ∀ H M, IsD C.k H M d v) : PE X e (tE C (cst d)) := by
  refine PE.imp h fun σ H Q ⟨e, s, o⟩ => o v H (Ext.refl _ _) s (hd _ _)
theorem je_int {i : Int} {j : Nat} {pos : Pos} : PE X (.Constant (.int i) j pos) (tE C (cst (.int i))) := je_cst pe_int fun _ _ => rfl
theorem je_bl {i : Bool} {j : Nat} {pos : Pos} : PE X (.Constant (.bool i) j pos) (tE C (cst (.bl i))) := je_cst pe_bl fun _ _ => rfl
theorem je_non {j : Nat} {pos : Pos} : PE X (.Constant .none j pos) (tE C (cst .non)) := je_cst pe_non fun _ _ => rfl
theorem je_str {x : Str} {j : Nat} {pos : Pos} : PE X (.Constant (.str x) j pos) (tE C (cst (.str x))) := je_cst pe_str fun _ _ => rfl
/-- a module's int -/
theorem je_gint {x : Str} {i : Int} {u : Value} {pos : Pos} (hg : Gl X x) (hm : X.mg x = some u) (r : RelV (.int i) u) (hd : (x == ("__debug__" : Str)) = false := by decide) : PE X (.Name x pos) (tE C (cst (.int i))) := je_cst (pe_glob hg hm r hd) fun _ _ => rfl

/-! ### operators -/
def bin2 (op : D → D → R D) (f g : MD D) : MD D := fun e => (f e).bind fun p => (g p.2).bind fun q => (op p.1 q.1).at q.2
def un1 (op : D → R D) (f : MD D) : MD D := fun e => (f e).bind fun p => (op p.1).at p.2
/-- an operation on data that makes new objects at most -/
def PNew (C : Ct) (σ : L2.St) (H : Hp) (Q : VK) (r : R D) : Prop := Out (fun d => ∀ v H', Same H H' → IsD C.k H' (MO C σ) d v → Q v H') (fun _ _ => False) r
def OpD (C : Ct) (r : R2) (op : D → D → R D) : Prop := ∀ (σ : L2.St) (e : Lc) (H : Hp) (x y : V) (d1 d2 : D) (Q : VK), SR C e σ H → IsT C.k H (MO C σ) d1 x → IsT C.k H (MO C σ) d2 y → PNew C σ H Q (op d1 d2) → r x y H Q
def UnD (C : Ct) (r : V → Hp → VK → Prop) (op : D → R D) : Prop := ∀ (σ : L2.St) (e : Lc) (H : Hp) (x : V) (d1 : D) (Q : VK), SR C e σ H → IsT C.k H (MO C σ) d1 x → PNew C σ H Q (op d1) → r x H Q
theorem PNew.of {σ : L2.St} {e : Lc} {H0 H : Hp} {Q : VK} {r : R D} (h : OE C σ H0 Q (r.at e)) (x : Ext (OW C σ) H0 H) (s : SR C e σ H) (nx : ∀ y l, r ≠ .exc y l) : PNew C σ H Q r := by
  cases r with
  | ok d => exact fun v H' k i => h v H' (x.trans (same_ext k)) (s.same k) i
  | exc y l => exact absurd rfl (nx y l)
  | bad => exact h
theorem tE_bin {r : R2} {op : D → D → R D} {f g : MD D} (ho : OpD C r op) (nx : ∀ a b y l, op a b ≠ .exc y l) (σ : L2.St) (H : Hp) (Q : VK) (h : tE C (bin2 op f g) σ H Q) : tOp r (tE C f) (tE C g) σ H Q := by
  obtain ⟨e, s, o⟩ := h
  refine ⟨e, s, ?_⟩
  refine (Out.bind o).imp (fun p hp => ?_) fun _ _ z => z
  intro v1 H1 x1 s1 i1
  refine ⟨p.2, s1, ?_⟩
  refine (Out.bind hp).imp (fun q hq => ?_) fun _ _ z => z.ext x1
  intro v2 H2 x2 s2 i2
  exact ho σ q.2 H2 v1 v2 p.1 q.1 Q s2 ((Stp.of x2).isD i1).t i2.t (PNew.of hq (x1.trans x2) s2 (nx _ _))
theorem tE_un {r : V → Hp → VK → Prop} {op : D → R D} {f : MD D} (ho : UnD C r op) (nx : ∀ a y l, op a ≠ .exc y l) (σ : L2.St) (H : Hp) (Q : VK) (h : tE C (un1 op f) σ H Q) : tUn r (tE C f) σ H Q := by
  obtain ⟨e, s, o⟩ := h
  refine ⟨e, s, ?_⟩
  refine (Out.bind o).imp (fun p hp => ?_) fun _ _ z => z
  intro v1 H1 x1 s1 i1
  exact ho σ p.2 H1 v1 p.1 Q s1 i1.t (PNew.of hp x1 s1 (nx _))
variable {a b c : Expr} {f g h : MD D} {pos : Pos}
theorem je_op {op : Operator} {r : R2} {F : D → D → R D} (ho : OpR X (binaryOp op) r) (hd : OpD C r F) (nx : ∀ a b y l, F a b ≠ .exc y l) (ha : PE X a (tE C f)) (hb : PE X b (tE C g)) : PE X (.BinOp a op b pos) (tE C (bin2 F f g)) := PE.imp (pe_op ho ha hb) (tE_bin hd nx)
theorem je_cmp {op : CmpOp} {r : R2} {F : D → D → R D} (ho : OpR X (compareOp op) r) (hd : OpD C r F) (nx : ∀ a b y l, F a b ≠ .exc y l) (hm : behindInMarks op b = false) (ha : PE X a (tE C f)) (hb : PE X b (tE C g)) : PE X (.Compare a [op] [b] pos) (tE C (bin2 F f g)) := PE.imp (pe_cmpR ho ha hb hm) (tE_bin hd nx)
/-- the answer as a test -/
def tst (f : MD D) : MD Bool := fun e => (f e).bind fun p => match p.1 with
  | .bl b => .ok (b, p.2)
  | _ => .bad
theorem tT_test {f : MD D} (σ : L2.St) (H : Hp) (Q : Bool → Hp → Prop) (h : tT C (tst f) σ H Q) : tE C f σ H (fun x H' => ∃ k, x = .bl k ∧ Q k H') := by
  obtain ⟨e, s, o⟩ := h
  refine ⟨e, s, (Out.bind o).imp (fun p hp => ?_) fun _ _ z => z⟩
  obtain ⟨d, e1⟩ := p
  intro v H1 x1 s1 i1
  cases d with
  | bl b =>
    cases i1
    exact ⟨b, rfl, hp H1 x1 s1⟩
  | _ => exact hp.elim
theorem jt_cmp {op : CmpOp} {r : R2} {F : D → D → R D} (ho : OpR X (compareOp op) r) (hd : OpD C r F) (nx : ∀ a b y l, F a b ≠ .exc y l) (hm : behindInMarks op b = false) (ha : PE X a (tE C f)) (hb : PE X b (tE C g)) : PT X (.Compare a [op] [b] pos) (tT C (tst (bin2 F f g))) := by
  refine PT.imp (pt_cmpR ho ha hb hm) fun σ H Q h => ?_
  have h1 := tT_test σ H Q h
  exact tE_bin hd nx σ H _ h1
/-- two comparisons in a row -/
def chn (F G : D → D → R D) (f g h : MD D) : MD D := fun e => (f e).bind fun p => (g p.2).bind fun q => (F p.1 q.1).bind fun d => match d with
  | .bl true => (h q.2).bind fun r => (G q.1 r.1).at r.2
  | .bl false => .ok (.bl false, q.2)
  | _ => .bad
theorem tE_chn {r r' : R2} {F G : D → D → R D} (h1 : OpD C r F) (h2 : OpD C r' G) (nx : ∀ a b y l, F a b ≠ .exc y l) (nx' : ∀ a b y l, G a b ≠ .exc y l) (σ : L2.St) (H : Hp) (Q : VK) (hh : tE C (chn F G f g h) σ H Q) : tChain r r' (tE C f) (tE C g) (tE C h) σ H Q := by
  obtain ⟨e, s, o⟩ := hh
  refine ⟨e, s, (Out.bind o).imp (fun p hp => ?_) fun _ _ z => z⟩
  intro v1 H1 x1 s1 i1
  refine ⟨p.2, s1, (Out.bind hp).imp (fun q hq => ?_) fun _ _ z => z.ext x1⟩
  intro v2 H2 x2 s2 i2
  refine h1 σ q.2 H2 v1 v2 p.1 q.1 _ s2 ((Stp.of x2).isD i1).t i2.t ?_
  cases e0 : F p.1 q.1 with
  | exc y l => exact absurd e0 (nx _ _ _ _)
  | bad =>
    rw [e0] at hq
    exact hq
  | ok d =>
    rw [e0] at hq
    intro v3 H3 k3 i3
    cases d with
    | bl b =>
      cases i3
      refine ⟨b, rfl, ?_⟩
      cases b with
      | true =>
        rw [if_pos rfl]
        have hq2 : Out (PO1 C σ H Q) (XO C σ H) ((h q.2).bind fun r => (G q.1 r.1).at r.2) := hq
        refine ⟨q.2, s2.same k3, (Out.bind hq2).imp (fun t ht => ?_) fun _ _ z => z.ext ((x1.trans x2).trans (same_ext k3))⟩
        intro v4 H4 x4 s4 i4
        have x24 : Ext (OW C σ) H2 H4 := (same_ext k3).trans x4
        exact h2 σ t.2 H4 v2 v4 q.1 t.1 Q s4 ((Stp.of x24).isD i2).t i4.t (PNew.of ht ((x1.trans x2).trans x24) s4 (nx' _ _))
      | false =>
        rw [if_neg Bool.false_ne_true]
        exact hq _ H3 ((x1.trans x2).trans (same_ext k3)) (s2.same k3) rfl
    | _ => exact hq.elim
theorem je_chn {op op' : CmpOp} {r r' : R2} {F G : D → D → R D} (ho : OpR X (compareOp op) r) (ho' : OpR X (compareOp op') r') (h1 : OpD C r F) (h2 : OpD C r' G) (nx : ∀ a b y l, F a b ≠ .exc y l) (nx' : ∀ a b y l, G a b ≠ .exc y l)
    (ha : PE X a (tE C f)) (hb : PE X b (tE C g)) (hc : PE X c (tE C h)) (hm : lastMarks [op, op'] [b, c] = false := by with_unfolding_all rfl) : PE X (.Compare a [op, op'] [b, c] pos) (tE C (chn F G f g h)) := PE.imp (pe_chain ho ho' ha hb hc hm) (tE_chn h1 h2 nx nx')
theorem jt_chn {op op' : CmpOp} {r r' : R2} {F G : D → D → R D} (ho : OpR X (compareOp op) r) (ho' : OpR X (compareOp op') r') (h1 : OpD C r F) (h2 : OpD C r' G) (nx : ∀ a b y l, F a b ≠ .exc y l) (nx' : ∀ a b y l, G a b ≠ .exc y l)
    (ha : PE X a (tE C f)) (hb : PE X b (tE C g)) (hc : PE X c (tE C h)) (hm : lastMarks [op, op'] [b, c] = false := by with_unfolding_all rfl) : PT X (.Compare a [op, op'] [b, c] pos) (tT C (tst (chn F G f g h))) := by
  refine PT.imp (pt_chain ho ho' ha hb hc hm) fun σ H Q q => ?_
  exact tE_chn h1 h2 nx nx' σ H _ (tT_test σ H Q q)

/-! ### truth, and, or, not -/
def truR : D → R Bool
  | .non => .ok false
  | .bl b => .ok b
  | .int i => .ok (i != 0)
  | .str x => if x.length ≤ sizeLine then .ok ((x.length : Int) != 0) else .bad
  | .tup ds => .ok (!ds.isEmpty)
  | .lst ds => .ok (!ds.isEmpty)
  | .dct ks _ => .ok (!ks.isEmpty)
  | .fn _ => .bad
  | .scr ns => .ok (!ns.isEmpty)
def tru (f : MD D) : MD Bool := fun e => (f e).bind fun p => (truR p.1).at p.2
theorem isEmpty_ds {k : Kx} {H : Hp} {M : Addr → Prop} {ds : List D} {vs : List V} (h : IsDs k H M ds vs) : ds.isEmpty = vs.isEmpty := by
  have := h.length
  cases ds <;> cases vs <;> simp_all
theorem tru_of {H : Hp} {d : D} {x : V} {M : Addr → Prop} {b : Bool} (i : IsT C.k H M d x) (h : truR d = .ok b) : TruV C.k.K x H b := by
  cases d with
  | non => cases i; cases h; rfl
  | bl b' => cases i; cases h; rfl
  | int j => cases i; cases h; rfl
  | str y =>
    cases i
    have h' : (if y.length ≤ sizeLine then R.ok ((y.length : Int) != 0) else R.bad) = R.ok b := h
    by_cases hy : y.length ≤ sizeLine
    · rw [if_pos hy] at h'
      cases h'
      exact ⟨hy, rfl⟩
    · rw [if_neg hy] at h'
      cases h'
  | tup ds =>
    obtain ⟨a, vs, rfl, h1, h2⟩ := i
    cases h
    exact .inr (.inl ⟨vs, h1, by rw [isEmpty_ds h2]⟩)
  | lst ds =>
    obtain ⟨a, vs, rfl, h1, h2⟩ := i
    cases h
    exact .inl ⟨vs, .inl (.inl h1), by rw [isEmpty_ds h2]⟩
  | dct ks ds =>
    obtain ⟨a, kvs, rfl, h1, h2, h3⟩ := i
    cases h
    refine .inr (.inr ⟨kvs, h1, ?_⟩)
    rw [← h2]
    cases kvs <;> rfl
  | fn j => cases h
  | scr ns =>
    obtain ⟨a, rfl, h1⟩ := i
    cases h
    exact .inl ⟨_, h1 H fun _ _ z => z, by cases ns <;> rfl⟩
theorem truR_nx (d : D) (y : Ex) (l : Lc) : truR d ≠ .exc y l := by
  cases d <;> simp [truR]
  split <;> simp
theorem jt_tru (hK : C.k.K = X.K) (ha : PE X a (tE C f)) (he : ∀ whole, isTrue a X.env whole = (do let v ← whole; standAt a.pos; holding [v] (truthy v)) := by intro _; rfl) : PT X a (tT C (tru f)) := by
  refine PT.imp (pt_truth ha he) fun σ H Q ⟨e, s, o⟩ => ?_
  refine ⟨e, s, (Out.bind o).imp (fun p hp => ?_) fun _ _ z => z⟩
  intro v H1 x1 s1 i1
  cases e0 : truR p.1 with
  | ok b =>
    rw [e0] at hp
    exact ⟨b, by rw [← hK]; exact tru_of i1.t e0, hp H1 x1 s1⟩
  | exc y l => exact absurd e0 (truR_nx _ _ _)
  | bad =>
    rw [e0] at hp
    exact hp.elim
variable {tf tg : MD Bool} {es : List Expr}
def andT (f g : MD Bool) : MD Bool := fun e => (f e).bind fun p => match p.1 with
  | true => g p.2
  | false => .ok (false, p.2)
def orT (f g : MD Bool) : MD Bool := fun e => (f e).bind fun p => match p.1 with
  | true => .ok (true, p.2)
  | false => g p.2
def notT (f : MD Bool) : MD Bool := fun e => (f e).bind fun p => .ok (!p.1, p.2)
theorem OT.ext {σ : L2.St} {H H1 : Hp} {Q : Bool → Hp → Prop} {r : R (Bool × Lc)} (h : OT C σ H Q r) (x : Ext (OW C σ) H H1) : OT C σ H1 Q r := h.imp (fun _ hp H' x' s' => hp H' (x.trans x') s') fun _ _ z => z.ext x
theorem OE.ext {σ : L2.St} {H H1 : Hp} {Q : VK} {r : R (D × Lc)} (h : OE C σ H Q r) (x : Ext (OW C σ) H H1) : OE C σ H1 Q r := h.imp (fun _ hp v H' x' s' i' => hp v H' (x.trans x') s' i') fun _ _ z => z.ext x
theorem OA.ext {σ : L2.St} {H H1 : Hp} {Q : List V → Hp → Prop} {r : R (List D × Lc)} (h : OA C σ H Q r) (x : Ext (OW C σ) H H1) : OA C σ H1 Q r := h.imp (fun _ hp v H' x' s' i' => hp v H' (x.trans x') s' i') fun _ _ z => z.ext x
theorem tT_and (σ : L2.St) (H : Hp) (Q : Bool → Hp → Prop) (h : tT C (andT tf tg) σ H Q) : tAnd (tT C tf) (tT C tg) σ H Q := by
  obtain ⟨e, s, o⟩ := h
  refine ⟨e, s, (Out.bind o).imp (fun p hp => ?_) fun _ _ z => z⟩
  obtain ⟨b, e1⟩ := p
  intro H1 x1 s1
  cases b with
  | true => exact iteT ⟨e1, s1, OT.ext hp x1⟩
  | false => exact iteF (hp H1 x1 s1)
theorem tT_or (σ : L2.St) (H : Hp) (Q : Bool → Hp → Prop) (h : tT C (orT tf tg) σ H Q) : tOr (tT C tf) (tT C tg) σ H Q := by
  obtain ⟨e, s, o⟩ := h
  refine ⟨e, s, (Out.bind o).imp (fun p hp => ?_) fun _ _ z => z⟩
  obtain ⟨b, e1⟩ := p
  intro H1 x1 s1
  cases b with
  | true => exact iteT (hp H1 x1 s1)
  | false => exact iteF ⟨e1, s1, OT.ext hp x1⟩
theorem jw_and1 (ha : PT X a (tT C tf)) : PW X (.BoolOp .And [a] pos) (tT C tf) := pw_and1 ha
theorem jw_or1 (ha : PT X a (tT C tf)) : PW X (.BoolOp .Or [a] pos) (tT C tf) := pw_or1 ha
theorem PW.imp {e : Expr} {t t' : TT} (h : PW X e t) (i : ∀ σ H Q, t' σ H Q → t σ H Q) : PW X e t' := ⟨fun w pins s σ H Q I hw => h.run w pins s σ H Q I (i σ H Q hw)⟩
theorem jw_and (ha : PT X a (tT C tf)) (hb : PW X (.BoolOp .And (b :: es) pos) (tT C tg)) : PW X (.BoolOp .And (a :: b :: es) pos) (tT C (andT tf tg)) := PW.imp (pw_and ha hb) tT_and
theorem jw_or (ha : PT X a (tT C tf)) (hb : PW X (.BoolOp .Or (b :: es) pos) (tT C tg)) : PW X (.BoolOp .Or (a :: b :: es) pos) (tT C (orT tf tg)) := PW.imp (pw_or ha hb) tT_or
theorem jt_not (ha : PT X a (tT C tf)) : PT X (.UnaryOp .Not a pos) (tT C (notT tf)) := by
  refine PT.imp (pt_not ha) fun σ H Q ⟨e, s, o⟩ => ⟨e, s, (Out.bind o).imp (fun p hp H' x' s' => hp H' x' s') fun _ _ z => z⟩
/-- and, or, not as values: the left sides truths -/
def andV (f g : MD D) : MD D := fun e => (f e).bind fun p => match p.1 with
  | .bl true => g p.2
  | .bl false => .ok (.bl false, p.2)
  | _ => .bad
def orV (f g : MD D) : MD D := fun e => (f e).bind fun p => match p.1 with
  | .bl true => .ok (.bl true, p.2)
  | .bl false => g p.2
  | _ => .bad
def notV (f : MD D) : MD D := fun e => (f e).bind fun p => match p.1 with
  | .bl b => .ok (.bl (!b), p.2)
  | _ => .bad
theorem je_one {op : BoolOp} (ha : PE X a (tE C f)) : PE X (.BoolOp op [a] pos) (tE C f) := pe_one ha
theorem je_and (ha : PE X a (tE C f)) (hb : PE X (.BoolOp .And (b :: es) pos) (tE C g)) : PE X (.BoolOp .And (a :: b :: es) pos) (tE C (andV f g)) := by
  refine PE.imp (pe_and ha hb) fun σ H Q ⟨e, s, o⟩ => ⟨e, s, (Out.bind o).imp (fun p hp => ?_) fun _ _ z => z⟩
  obtain ⟨d, e1⟩ := p
  intro v H1 x1 s1 i1
  cases d with
  | bl b =>
    cases i1
    refine ⟨b, rfl, ?_⟩
    cases b with
    | true => exact iteT ⟨e1, s1, OE.ext hp x1⟩
    | false => exact iteF (hp _ H1 x1 s1 rfl)
  | _ => exact hp.elim
theorem je_or (ha : PE X a (tE C f)) (hb : PE X (.BoolOp .Or (b :: es) pos) (tE C g)) : PE X (.BoolOp .Or (a :: b :: es) pos) (tE C (orV f g)) := by
  refine PE.imp (pe_or ha hb) fun σ H Q ⟨e, s, o⟩ => ⟨e, s, (Out.bind o).imp (fun p hp => ?_) fun _ _ z => z⟩
  obtain ⟨d, e1⟩ := p
  intro v H1 x1 s1 i1
  cases d with
  | bl b =>
    cases i1
    refine ⟨b, rfl, ?_⟩
    cases b with
    | true => exact iteT (hp _ H1 x1 s1 rfl)
    | false => exact iteF ⟨e1, s1, OE.ext hp x1⟩
  | _ => exact hp.elim
theorem je_not (ha : PE X a (tE C f)) : PE X (.UnaryOp .Not a pos) (tE C (notV f)) := by
  refine PE.imp (pe_not ha) fun σ H Q ⟨e, s, o⟩ => ⟨e, s, (Out.bind o).imp (fun p hp => ?_) fun _ _ z => z⟩
  obtain ⟨d, e1⟩ := p
  intro v H1 x1 s1 i1
  cases d with
  | bl b =>
    cases i1
    exact ⟨b, rfl, hp _ H1 x1 s1 rfl⟩
  | _ => exact hp.elim
def ifV (t : MD Bool) (f g : MD D) : MD D := fun e => (t e).bind fun p => match p.1 with
  | true => f p.2
  | false => g p.2
theorem je_if (hc : PT X c (tT C tf)) (ha : PE X a (tE C f)) (hb : PE X b (tE C g)) : PE X (.IfExp c a b pos) (tE C (ifV tf f g)) := by
  refine PE.imp (pe_ifExp hc ha hb) fun σ H Q ⟨e, s, o⟩ => ⟨e, s, (Out.bind o).imp (fun p hp => ?_) fun _ _ z => z⟩
  obtain ⟨b, e1⟩ := p
  intro H1 x1 s1
  cases b with
  | true => exact iteT ⟨e1, s1, OE.ext hp x1⟩
  | false => exact iteF ⟨e1, s1, OE.ext hp x1⟩

/-! ### argument lists, displays -/
def nilA : MD (List D) := fun e => .ok ([], e)
def consA (f : MD D) (g : MD (List D)) : MD (List D) := fun e => (f e).bind fun p => (g p.2).bind fun q => .ok (p.1 :: q.1, q.2)
variable {fa : MD (List D)}
theorem ja_nil : PA X [] (tA C nilA) := PA.imp pa_nil fun σ H Q ⟨e, s, o⟩ => o [] H (Ext.refl _ _) s .nil
theorem ja_cons (ha : PE X a (tE C f)) (hr : PA X es (tA C fa)) (hs : starEach (a :: es) X.env = (false, eval a X.env) :: starEach es X.env := by rfl) : PA X (a :: es) (tA C (consA f fa)) := by
  refine PA.imp (pa_cons ha hr hs) fun σ H Q ⟨e, s, o⟩ => ⟨e, s, (Out.bind o).imp (fun p hp => ?_) fun _ _ z => z⟩
  intro v H1 x1 s1 i1
  refine ⟨p.2, s1, (Out.bind hp).imp (fun q hq => ?_) fun _ _ z => z.ext x1⟩
  intro vs H2 x2 s2 i2
  exact hq (v :: vs) H2 (x1.trans x2) s2 (.cons ((Stp.of x2).isD i1) i2)
def szR (ds : List D) (d : D) : R D := if ds.length ≤ sizeLine then .ok d else .bad
def tupE (g : MD (List D)) : MD D := fun e => (g e).bind fun q => (szR q.1 (.tup q.1)).at q.2
def lstE (g : MD (List D)) : MD D := fun e => (g e).bind fun q => (szR q.1 (.lst q.1)).at q.2
theorem SR.fresh {e : Lc} {σ : L2.St} {H : Hp} (s : SR C e σ H) {p : Addr} (hp : H p = none) : ¬ MO C σ p := fun z => by
  obtain ⟨o, h⟩ := s.mod z
  rw [hp] at h
  cases h
theorem IsD.newT {σ : L2.St} {H : Hp} {p : Addr} {ds : List D} {vs : List V} (hp : H p = none) (i : IsDs C.k H (MO C σ) ds vs) : IsD C.k (upd H p (.tup vs)) (MO C σ) (.tup ds) (.ref p) :=
  ⟨p, vs, rfl, .inl (.inl upd_same), (Stp.of (Ext.upd hp)).isDs i⟩
theorem IsD.newL {e : Lc} {σ : L2.St} {H : Hp} {p : Addr} {ds : List D} {vs : List V} (s : SR C e σ H) (hp : H p = none) (i : IsDs C.k H (MO C σ) ds vs) : IsD C.k (upd H p (.lst vs)) (MO C σ) (.lst ds) (.ref p) :=
  ⟨p, vs, rfl, upd_same, s.fresh hp, (Stp.of (Ext.upd hp)).isDs i⟩
theorem je_tup {x1 : Nat} (h : PA X es (tA C fa)) : PE X (.Tuple es x1 pos) (tE C (tupE fa)) := by
  refine PE.imp (pe_tup h) fun σ H Q ⟨e, s, o⟩ => ⟨e, s, (Out.bind o).imp (fun p hp => ?_) fun _ _ z => z⟩
  intro vs H1 x1 s1 i1
  unfold szR at hp
  by_cases hz : p.1.length ≤ sizeLine
  · rw [if_pos hz] at hp
    exact ⟨by rw [i1.length]; exact hz, fun q hq => hp _ _ (x1.trans (Ext.upd hq)) (s1.grow hq) (IsD.newT hq i1)⟩
  · rw [if_neg hz] at hp
    exact hp.elim
theorem je_lst (h : PA X es (tA C fa)) : PE X (.List es pos) (tE C (lstE fa)) := by
  refine PE.imp (pe_lst h) fun σ H Q ⟨e, s, o⟩ => ⟨e, s, (Out.bind o).imp (fun p hp => ?_) fun _ _ z => z⟩
  intro vs H1 x1 s1 i1
  unfold szR at hp
  by_cases hz : p.1.length ≤ sizeLine
  · rw [if_pos hz] at hp
    exact ⟨by rw [i1.length]; exact hz, fun q hq => hp _ _ (x1.trans (Ext.upd hq)) (s1.grow hq) (IsD.newL s1 hq i1)⟩
  · rw [if_neg hz] at hp
    exact hp.elim
end
end Dn

namespace Dn
open PySem PySem.Spec PyProof.Rows L2

/-! ### arithmetic, joining -/
def addD : D → D → R D
  | .int i, .int j => .ok (.int (i + j))
  | .str x, .str y => if x.length + y.length ≤ sizeLine then .ok (.str (x ++ y)) else .bad
  | .tup xs, .tup ys => if xs.length + ys.length ≤ sizeLine then .ok (.tup (xs ++ ys)) else .bad
  | .lst xs, .lst ys => if xs.length + ys.length ≤ sizeLine then .ok (.lst (xs ++ ys)) else .bad
  | _, _ => .bad
def subD : D → D → R D
  | .int i, .int j => .ok (.int (i - j))
  | _, _ => .bad
def mulD : D → D → R D
  | .int i, .int j => if i.natAbs.log2 + j.natAbs.log2 < 1000000 then .ok (.int (i * j)) else .bad
  | .lst xs, .int k => if -(2 ^ 63) ≤ k ∧ k < 2 ^ 63 ∧ xs.length * k.toNat ≤ sizeLine then .ok (.lst (List.replicate k.toNat xs).flatten) else .bad
  | .tup xs, .int k => if xs ≠ [] ∧ 2 ≤ k ∧ k ≤ 1000 ∧ xs.length ≤ 1000 then .ok (.tup (List.replicate k.toNat xs).flatten) else .bad
  | _, _ => .bad
def fdivD : D → D → R D
  | .int i, .int j => if (0 < j ∧ j.natAbs.log2 < 9000) ∨ (j ≠ 0 ∧ j.natAbs < 1073741824) then .ok (.int (i.fdiv j)) else .bad
  | _, _ => .bad
def modD : D → D → R D
  | .int i, .int j => if j ≠ 0 then .ok (.int (i.fmod j)) else .bad
  | _, _ => .bad
def powD : D → D → R D
  | .int i, .int j => if 0 ≤ j ∧ j ≤ 1000000 ∧ i.natAbs < 2 ^ 64 then .ok (.int (i ^ j.toNat)) else .bad
  | _, _ => .bad
section
variable {X : Cx} {C : Ct}
theorem addD_nx (a b : D) (y : Ex) (l : Lc) : addD a b ≠ .exc y l := by
  unfold addD
  split <;> (try split) <;> simp
theorem subD_nx (a b : D) (y : Ex) (l : Lc) : subD a b ≠ .exc y l := by
  unfold subD
  split <;> simp
theorem mulD_nx (a b : D) (y : Ex) (l : Lc) : mulD a b ≠ .exc y l := by
  unfold mulD
  split <;> (repeat' split) <;> simp
theorem fdivD_nx (a b : D) (y : Ex) (l : Lc) : fdivD a b ≠ .exc y l := by
  unfold fdivD
  split <;> (try split) <;> simp
theorem modD_nx (a b : D) (y : Ex) (l : Lc) : modD a b ≠ .exc y l := by
  unfold modD
  split <;> (try split) <;> simp
theorem powD_nx (a b : D) (y : Ex) (l : Lc) : powD a b ≠ .exc y l := by
  unfold powD
  split <;> (try split) <;> simp
abbrev rAddS : R2 := fun x y H Q => ∃ i j, x = .str i ∧ y = .str j ∧ i.length + j.length ≤ sizeLine ∧ Q (.str (i ++ j)) H
/-- a + b of lists that may be frozen -/
def rCatF : R2 := fun x y H Q => ∃ l b xs zs, x = .ref l ∧ y = .ref b ∧ Rd H l (.lst xs) ∧ Rd H b (.lst zs) ∧ xs.length + zs.length ≤ sizeLine ∧ ∀ p, H p = none → Q (.ref p) (upd H p (.lst (xs ++ zs)))
abbrev rAddX (K : PySem.W.Frag) : R2 := fun x y H Q => ((rI0 fun i j => .int (i + j)) x y H Q ∨ rAddS x y H Q) ∨ (rCatA K x y H Q ∨ rCat x y H Q)
theorem op_addX : OpR X (binaryOp .Add) (rAddX X.K) := (op_add.or op_add_str).or (op_catA.or op_cat)
theorem same_upd' {H : Hp} {p : Addr} {o : HO} (h : H p = none) : Same H (upd H p o) := fun b x e => by
  rw [upd_ne (ne_of_none e h)]
  exact e
theorem PNew.tup {σ : L2.St} {e : Lc} {H : Hp} {Q : VK} {ds : List D} {vs : List V} {p : Addr} (q : PNew C σ H Q (.ok (.tup ds))) (hp : H p = none) (i : IsDs C.k H (MO C σ) ds vs) : Q (.ref p) (upd H p (.tup vs)) := q _ _ (same_upd' hp) (IsD.newT hp i)
theorem PNew.lst {σ : L2.St} {e : Lc} {H : Hp} {Q : VK} {ds : List D} {vs : List V} {p : Addr} (q : PNew C σ H Q (.ok (.lst ds))) (s : SR C e σ H) (hp : H p = none) (i : IsDs C.k H (MO C σ) ds vs) : Q (.ref p) (upd H p (.lst vs)) := q _ _ (same_upd' hp) (IsD.newL s hp i)
theorem PNew.val {σ : L2.St} {H : Hp} {Q : VK} {d : D} {v : V} (q : PNew C σ H Q (.ok d)) (i : IsD C.k H (MO C σ) d v) : Q v H := q v H (Same.refl _) i
theorem opd_add : OpD C (rAddX C.k.K) addD := by
  intro σ e H x y d1 d2 Q s i1 i2 q
  unfold addD at q
  split at q
  · cases i1
    cases i2
    exact .inl (.inl ⟨_, _, rfl, rfl, q.val rfl⟩)
  · cases i1
    cases i2
    split at q
    · rename_i hz
      exact .inl (.inr ⟨_, _, rfl, rfl, hz, q.val rfl⟩)
    · exact q.elim
  · split at q
    · rename_i xs ys hz
      obtain ⟨a, vs, rfl, h1, h2⟩ := i1
      obtain ⟨b, ws, rfl, h3, h4⟩ := i2
      refine .inr (.inl ⟨a, b, vs, ws, rfl, rfl, h1, h3, by rw [h2.length, h4.length]; exact hz, fun e1 => ?_, fun _ e1 => ?_, fun _ _ p hp => q.tup (e := e) hp (h2.app h4)⟩)
      · subst e1
        have : xs = [] := List.length_eq_zero_iff.mp (by rw [← h2.length]; rfl)
        subst this
        exact q.val ⟨b, ws, rfl, h3, by simpa using h4⟩
      · subst e1
        have : ys = [] := List.length_eq_zero_iff.mp (by rw [← h4.length]; rfl)
        subst this
        exact q.val ⟨a, vs, rfl, h1, by simpa using h2⟩
    · exact q.elim
  · split at q
    · rename_i xs ys hz
      obtain ⟨a, vs, rfl, h1, h2⟩ := i1
      obtain ⟨b, ws, rfl, h3, h4⟩ := i2
      exact .inr (.inr ⟨a, b, vs, ws, rfl, rfl, h1, h3, by rw [h2.length, h4.length]; exact hz, fun p hp => q.lst s hp (h2.app h4)⟩)
    · exact q.elim
  · exact q.elim
theorem opd_sub : OpD C (rI0 fun i j => .int (i - j)) subD := by
  intro σ e H x y d1 d2 Q s i1 i2 q
  unfold subD at q
  split at q
  · cases i1
    cases i2
    exact ⟨_, _, rfl, rfl, q.val rfl⟩
  · exact q.elim
abbrev rMulX (K : PySem.W.Frag) : R2 := fun x y H Q => (rI CMulW (fun i j => .int (i * j)) x y H Q ∨ rRep x y H Q) ∨ (rRepT K x y H Q)
theorem op_mulX : OpR X (binaryOp .Mult) (rMulX X.K) := (op_mulW.or op_rep).or op_repT
theorem IsDs.rep {k : Kx} {H : Hp} {M : Addr → Prop} {ds : List D} {vs : List V} (h : IsDs k H M ds vs) : ∀ n : Nat, IsDs k H M (List.replicate n ds).flatten (List.replicate n vs).flatten
  | 0 => rfl
  | n + 1 => by
    rw [List.replicate_succ, List.replicate_succ, List.flatten_cons, List.flatten_cons]
    exact h.app (IsDs.rep h n)
theorem opd_mul : OpD C (rMulX C.k.K) mulD := by
  intro σ e H x y d1 d2 Q s i1 i2 q
  unfold mulD at q
  split at q
  · split at q
    · rename_i hz
      cases i1
      cases i2
      exact .inl (.inl ⟨_, _, rfl, rfl, hz, q.val rfl⟩)
    · exact q.elim
  · split at q
    · rename_i hz
      obtain ⟨a, vs, rfl, h1, h2⟩ := i1
      cases i2
      exact .inl (.inr ⟨a, _, vs, rfl, rfl, h1, hz.1, hz.2.1, by rw [h2.length]; exact hz.2.2, fun p hp => q.lst s hp (h2.rep _)⟩)
    · exact q.elim
  · split at q
    · rename_i xs k hz
      obtain ⟨a, vs, rfl, h1, h2⟩ := i1
      cases i2
      refine .inr ⟨a, _, vs, rfl, rfl, h1, fun z => ?_, hz.2.1, hz.2.2.1, by rw [h2.length]; exact hz.2.2.2, fun p hp => q.tup (e := e) hp (h2.rep _)⟩
      subst z
      exact hz.1 (List.length_eq_zero_iff.mp (by rw [← h2.length]; rfl))
    · exact q.elim
  · exact q.elim
abbrev rDivX : R2 := fun x y H Q => rI CDivW (fun i j => .int (i / j)) x y H Q ∨ rI CDivN (fun i j => .int (i.fdiv j)) x y H Q
theorem op_divX : OpR X (binaryOp .FloorDiv) rDivX := op_fdivW.or op_fdivN
theorem opd_fdiv : OpD C rDivX fdivD := by
  intro σ e H x y d1 d2 Q s i1 i2 q
  unfold fdivD at q
  split at q
  · split at q
    · rename_i i j hz
      cases i1
      cases i2
      rcases hz with hz | hz
      · refine .inl ⟨_, _, rfl, rfl, hz, ?_⟩
        have e1 : i / j = i.fdiv j := (Int.fdiv_eq_ediv_of_nonneg i (by omega)).symm
        show Q (V.int (i / j)) H
        rw [e1]
        exact q.val rfl
      · exact .inr ⟨_, _, rfl, rfl, hz, q.val rfl⟩
    · exact q.elim
  · exact q.elim
theorem opd_mod : OpD C (rI (fun _ j => j ≠ 0) fun i j => .int (i.fmod j)) modD := by
  intro σ e H x y d1 d2 Q s i1 i2 q
  unfold modD at q
  split at q
  · split at q
    · rename_i hz
      cases i1
      cases i2
      exact ⟨_, _, rfl, rfl, hz, q.val rfl⟩
    · exact q.elim
  · exact q.elim
theorem opd_pow : OpD C (rI CPow fun i j => .int (i ^ j.toNat)) powD := by
  intro σ e H x y d1 d2 Q s i1 i2 q
  unfold powD at q
  split at q
  · split at q
    · rename_i hz
      cases i1
      cases i2
      exact ⟨_, _, rfl, rfl, hz, q.val rfl⟩
    · exact q.elim
  · exact q.elim
end
end Dn

namespace Dn
open PySem PySem.Spec PyProof.Rows L2

/-! ### equality -/
mutual
def D.py : D → Option PyData
  | .non => some .none
  | .bl b => some (.bool b)
  | .int i => some (.int i)
  | .str x => some (.str x)
  | .tup ds => match pys ds with
    | some xs => some (.tuple xs)
    | none => none
  | .lst ds => match pys ds with
    | some xs => some (.list xs)
    | none => none
  | .dct _ _ => none
  | .fn _ => none
  | .scr _ => none
def pys : List D → Option (List PyData)
  | [] => some []
  | d :: ds => match D.py d, pys ds with
    | some x, some xs => some (x :: xs)
    | _, _ => none
end
mutual
theorem D.dp {k : Kx} {H : Hp} {M : Addr → Prop} : ∀ (d : D) (v : V) (x : PyData), IsD k H M d v → D.py d = some x → Dp k.K H v x
  | .non, v, x, i, e => by cases i; cases e; exact .non
  | .bl b, v, x, i, e => by cases i; cases e; exact .bl b
  | .int b, v, x, i, e => by cases i; cases e; exact .int b
  | .str b, v, x, i, e => by cases i; cases e; exact .str b
  | .tup ds, v, x, ⟨a, vs, e1, h1, h2⟩, e => by
    unfold D.py at e
    split at e
    · rename_i xs e2
      cases e
      subst e1
      exact .tup h1 (pys_dp ds vs xs h2 e2)
    · cases e
  | .lst ds, v, x, ⟨a, vs, e1, h1, _, h2⟩, e => by
    unfold D.py at e
    split at e
    · rename_i xs e2
      cases e
      subst e1
      exact .lst (.inl (.inl h1)) (pys_dp ds vs xs h2 e2)
    · cases e
  | .dct _ _, v, x, i, e => by cases e
  | .fn _, v, x, i, e => by cases e
  | .scr _, v, x, i, e => by cases e
theorem pys_dp {k : Kx} {H : Hp} {M : Addr → Prop} : ∀ (ds : List D) (vs : List V) (xs : List PyData), IsDs k H M ds vs → pys ds = some xs → DpAll k.K H vs xs
  | [], vs, xs, i, e => by
    rw [show vs = [] from i]
    cases e
    exact .nil
  | d :: ds, vs, xs, ⟨v, r, e1, h1, h2⟩, e => by
    unfold pys at e
    split at e
    · rename_i x xs' e2 e3
      cases e
      subst e1
      exact .cons (D.dp d v x h1 e2) (pys_dp ds r xs' h2 e3)
    · cases e
end
theorem D.dpT {k : Kx} {H : Hp} {M : Addr → Prop} (d : D) (v : V) (x : PyData) (i : IsT k H M d v) (e : D.py d = some x) : Dp k.K H v x := by
  cases d with
  | lst ds =>
    obtain ⟨a, vs, e1, h1, h2⟩ := i
    unfold D.py at e
    split at e
    · rename_i xs e2
      cases e
      subst e1
      exact .lst (.inl (.inl h1)) (pys_dp ds vs xs h2 e2)
    · cases e
  | dct ks ds => cases e
  | _ => exact D.dp _ _ _ i e
def scalD : D → D → Option Bool
  | .int i, .int j => some (i == j)
  | .str i, .str j => some (i == j)
  | .bl i, .bl j => some (i == j)
  | .non, .non => some true
  | .int _, .non => some false
  | .non, .int _ => some false
  | _, _ => none
def eqD (a b : D) : R D := match scalD a b with
  | some r => .ok (.bl r)
  | none => match D.py a, D.py b with
    | some p, some q => if SeqAt.shaped p && SeqAt.shaped q then .ok (.bl (PyData.eqv p q)) else .bad
    | _, _ => .bad
def neD (a b : D) : R D := match scalD a b with
  | some r => .ok (.bl (!r))
  | none => match D.py a, D.py b with
    | some p, some q => if SeqAt.shaped p && SeqAt.shaped q then .ok (.bl (!PyData.eqv p q)) else .bad
    | _, _ => .bad
def isN (a b : D) : R D := match b with
  | .non => match a with
    | .non => .ok (.bl true)
    | _ => .ok (.bl false)
  | _ => .bad
def isNN (a b : D) : R D := match b with
  | .non => match a with
    | .non => .ok (.bl false)
    | _ => .ok (.bl true)
  | _ => .bad
def ltD : D → D → R D
  | .int i, .int j => .ok (.bl (decide (i < j)))
  | _, _ => .bad
def leD : D → D → R D
  | .int i, .int j => .ok (.bl (decide (i ≤ j)))
  | _, _ => .bad
def gtD : D → D → R D
  | .int i, .int j => .ok (.bl (decide (j < i)))
  | _, _ => .bad
def geD : D → D → R D
  | .int i, .int j => .ok (.bl (decide (j ≤ i)))
  | _, _ => .bad
/-- the ints of a row of data -/
def intsD : List D → Option (List Int)
  | [] => some []
  | .int i :: r => match intsD r with
    | some xs => some (i :: xs)
    | none => none
  | _ :: _ => none
/-- tuples of ints -/
def ltT : D → D → R D
  | .tup xs, .tup ys => match intsD xs, intsD ys with
    | some ns, some ms => .ok (.bl (HT.lexLt ns ms))
    | _, _ => .bad
  | _, _ => .bad
def memD (neg : Bool) (a c : D) : R D := match D.py a, c with
  | some p, .lst ds => match pys ds with
    | some xs => if SeqAt.shaped p && SeqAt.shaped (.list xs) then .ok (.bl (neg ^^ xs.any fun z => PyData.eqv z p)) else .bad
    | none => .bad
  | some p, .tup ds => match pys ds with
    | some xs => if SeqAt.shaped p && SeqAt.shaped (.tuple xs) then .ok (.bl (neg ^^ xs.any fun z => PyData.eqv z p)) else .bad
    | none => .bad
  | _, _ => .bad
section
variable {X : Cx} {C : Ct}
theorem eqD_nx (a b : D) (y : Ex) (l : Lc) : eqD a b ≠ .exc y l := by
  unfold eqD
  split <;> (repeat' split) <;> simp
theorem neD_nx (a b : D) (y : Ex) (l : Lc) : neD a b ≠ .exc y l := by
  unfold neD
  split <;> (repeat' split) <;> simp
theorem isN_nx (a b : D) (y : Ex) (l : Lc) : isN a b ≠ .exc y l := by
  unfold isN
  split <;> (repeat' split) <;> simp
theorem isNN_nx (a b : D) (y : Ex) (l : Lc) : isNN a b ≠ .exc y l := by
  unfold isNN
  split <;> (repeat' split) <;> simp
theorem ltD_nx (a b : D) (y : Ex) (l : Lc) : ltD a b ≠ .exc y l := by
  unfold ltD
  split <;> simp
theorem leD_nx (a b : D) (y : Ex) (l : Lc) : leD a b ≠ .exc y l := by
  unfold leD
  split <;> simp
theorem gtD_nx (a b : D) (y : Ex) (l : Lc) : gtD a b ≠ .exc y l := by
  unfold gtD
  split <;> simp
theorem geD_nx (a b : D) (y : Ex) (l : Lc) : geD a b ≠ .exc y l := by
  unfold geD
  split <;> simp
theorem ltT_nx (a b : D) (y : Ex) (l : Lc) : ltT a b ≠ .exc y l := by
  unfold ltT
  split <;> (repeat' split) <;> simp
theorem memD_nx (n : Bool) (a b : D) (y : Ex) (l : Lc) : memD n a b ≠ .exc y l := by
  unfold memD
  split <;> (repeat' split) <;> simp
abbrev rEqX (K : PySem.W.Frag) : R2 := fun x y H Q => rEq x y H Q ∨ rEqD K x y H Q
abbrev rNeX (K : PySem.W.Frag) : R2 := fun x y H Q => rNe x y H Q ∨ rNeD K x y H Q
theorem op_eqX (hu : X.A.units + 64 < cLine) : OpR X (compareOp .Eq) (rEqX X.K) := op_eq.or (op_eqD hu)
theorem op_neX (hu : X.A.units + 64 < cLine) : OpR X (compareOp .NotEq) (rNeX X.K) := op_ne.or (op_neD hu)
theorem scal_of {k : Kx} {H : Hp} {M : Addr → Prop} {a b : D} {x y : V} {r : Bool} (i1 : IsT k H M a x) (i2 : IsT k H M b y) (h : scalD a b = some r) : scal x y = true ∧ decide (x = y) = r := by
  unfold scalD at h
  split at h <;> (try cases h) <;> cases i1 <;> cases i2
  · exact ⟨rfl, dec_int⟩
  · exact ⟨rfl, dec_str⟩
  · exact ⟨rfl, dec_bl⟩
  · exact ⟨rfl, by simp⟩
  · exact ⟨rfl, by simp⟩
  · exact ⟨rfl, by simp⟩
theorem opd_eq : OpD C (rEqX C.k.K) eqD := by
  intro σ e H x y d1 d2 Q s i1 i2 q
  unfold eqD at q
  split at q
  · rename_i r hr
    obtain ⟨h1, h2⟩ := scal_of i1 i2 hr
    refine .inl ⟨h1, ?_⟩
    rw [h2]
    exact q.val rfl
  · split at q
    · rename_i p1 p2 e1 e2
      split at q
      · rename_i hz
        rw [Bool.and_eq_true] at hz
        exact .inr ⟨_, _, D.dpT _ _ _ i1 e1, D.dpT _ _ _ i2 e2, hz.1, hz.2, q.val rfl⟩
      · exact q.elim
    · exact q.elim
theorem opd_ne : OpD C (rNeX C.k.K) neD := by
  intro σ e H x y d1 d2 Q s i1 i2 q
  unfold neD at q
  split at q
  · rename_i r hr
    obtain ⟨h1, h2⟩ := scal_of i1 i2 hr
    refine .inl ⟨h1, ?_⟩
    rw [h2]
    exact q.val rfl
  · split at q
    · rename_i p1 p2 e1 e2
      split at q
      · rename_i hz
        rw [Bool.and_eq_true] at hz
        exact .inr ⟨_, _, D.dpT _ _ _ i1 e1, D.dpT _ _ _ i2 e2, hz.1, hz.2, q.val rfl⟩
      · exact q.elim
    · exact q.elim
theorem IsD.non_iff {k : Kx} {H : Hp} {M : Addr → Prop} {d : D} {v : V} (i : IsT k H M d v) : (v = .non) = (d = .non) := by
  refine propext ⟨fun e => ?_, fun e => by subst e; exact i⟩
  subst e
  cases d with
  | non => rfl
  | bl b => cases i
  | int b => cases i
  | str b => cases i
  | tup ds => obtain ⟨_, _, e, _⟩ := i; cases e
  | lst ds => obtain ⟨_, _, e, _⟩ := i; cases e
  | dct ks ds => obtain ⟨_, _, e, _⟩ := i; cases e
  | fn j => obtain ⟨_, e, _⟩ := i; cases e
  | scr j => obtain ⟨_, e, _⟩ := i; cases e
theorem opd_isN : OpD C (fun x y H Q => y = .non ∧ Q (.bl (decide (x = .non))) H) isN := by
  intro σ e H x y d1 d2 Q s i1 i2 q
  unfold isN at q
  split at q
  · cases i2
    refine ⟨rfl, ?_⟩
    have h := IsD.non_iff i1
    split at q
    · cases i1
      exact q.val rfl
    · rename_i hn
      have e1 : decide (x = .non) = false := decide_eq_false (by rw [h]; exact fun z => hn z)
      rw [e1]
      exact q.val rfl
  · exact q.elim
theorem opd_isNN : OpD C (fun x y H Q => y = .non ∧ Q (.bl (!decide (x = .non))) H) isNN := by
  intro σ e H x y d1 d2 Q s i1 i2 q
  unfold isNN at q
  split at q
  · cases i2
    refine ⟨rfl, ?_⟩
    have h := IsD.non_iff i1
    split at q
    · cases i1
      exact q.val rfl
    · rename_i hn
      have e1 : decide (x = .non) = false := decide_eq_false (by rw [h]; exact fun z => hn z)
      rw [e1]
      exact q.val rfl
  · exact q.elim
theorem opd_lt : OpD C (rI0 fun i j => .bl (decide (i < j))) ltD := by
  intro σ e H x y d1 d2 Q s i1 i2 q
  unfold ltD at q
  split at q
  · cases i1
    cases i2
    exact ⟨_, _, rfl, rfl, q.val rfl⟩
  · exact q.elim
theorem opd_le : OpD C (rI0 fun i j => .bl (decide (i ≤ j))) leD := by
  intro σ e H x y d1 d2 Q s i1 i2 q
  unfold leD at q
  split at q
  · cases i1
    cases i2
    exact ⟨_, _, rfl, rfl, q.val rfl⟩
  · exact q.elim
theorem opd_gt : OpD C (rI0 fun i j => .bl (decide (j < i))) gtD := by
  intro σ e H x y d1 d2 Q s i1 i2 q
  unfold gtD at q
  split at q
  · cases i1
    cases i2
    exact ⟨_, _, rfl, rfl, q.val rfl⟩
  · exact q.elim
theorem opd_ge : OpD C (rI0 fun i j => .bl (decide (j ≤ i))) geD := by
  intro σ e H x y d1 d2 Q s i1 i2 q
  unfold geD at q
  split at q
  · cases i1
    cases i2
    exact ⟨_, _, rfl, rfl, q.val rfl⟩
  · exact q.elim
theorem ints_of {k : Kx} {H : Hp} {M : Addr → Prop} : ∀ {ds : List D} {vs : List V} {ns : List Int}, IsDs k H M ds vs → intsD ds = some ns → vs = ns.map V.int
  | [], vs, ns, i, e => by
    cases e
    exact i
  | .int j :: r, vs, ns, ⟨v, vr, e1, h1, h2⟩, e => by
    unfold intsD at e
    split at e
    · rename_i xs e2
      cases e
      cases h1
      rw [e1, ints_of h2 e2]
      rfl
    · cases e
  | .non :: r, vs, ns, _, e => by cases e
  | .bl _ :: r, vs, ns, _, e => by cases e
  | .str _ :: r, vs, ns, _, e => by cases e
  | .tup _ :: r, vs, ns, _, e => by cases e
  | .lst _ :: r, vs, ns, _, e => by cases e
  | .dct _ _ :: r, vs, ns, _, e => by cases e
  | .fn _ :: r, vs, ns, _, e => by cases e
  | .scr _ :: r, vs, ns, _, e => by cases e
theorem opd_ltT : OpD C (rLtT C.k.K) ltT := by
  intro σ e H x y d1 d2 Q s i1 i2 q
  unfold ltT at q
  split at q
  · split at q
    · rename_i ns ms e1 e2
      obtain ⟨a, vs, rfl, h1, h2⟩ := i1
      obtain ⟨b, ws, rfl, h3, h4⟩ := i2
      rw [ints_of h2 e1] at h1
      rw [ints_of h4 e2] at h3
      exact ⟨a, b, ns, ms, rfl, rfl, h1, h3, q.val rfl⟩
    · exact q.elim
  · exact q.elim
def rInDT (K : PySem.W.Frag) : R2 := fun x y H Q => ∃ d ds, Dp K H x d ∧ Dp K H y (.tuple ds) ∧ SeqAt.shaped d = true ∧ SeqAt.shaped (.tuple ds) = true ∧ Q (.bl (ds.any fun z => PyData.eqv z d)) H
def rNotInDT (K : PySem.W.Frag) : R2 := fun x y H Q => ∃ d ds, Dp K H x d ∧ Dp K H y (.tuple ds) ∧ SeqAt.shaped d = true ∧ SeqAt.shaped (.tuple ds) = true ∧ Q (.bl (!ds.any fun z => PyData.eqv z d)) H
theorem op_inDT (hu : X.A.units + 65 < cLine) : OpR X (compareOp .In) (rInDT X.K) := by
  intro pins s σ H x y v u Q I rx ry h
  obtain ⟨d, ds, hd, he, sd, se, q⟩ := h
  obtain ⟨as, r1⟩ := Dp.reads I d x v hd rx
  obtain ⟨bs, r2⟩ := Dp.reads I (.tuple ds) y u he ry
  exact SeqAt.in_tuple_reads r2 r1 (SeqAt.canLay_of_shaped se) (SeqAt.canLay_of_shaped sd) (room_in_shaped sd hu) ⟨.bl _, H, I, rfl, q⟩
theorem op_notInDT (hu : X.A.units + 65 < cLine) : OpR X (compareOp .NotIn) (rNotInDT X.K) := by
  intro pins s σ H x y v u Q I rx ry h
  obtain ⟨d, ds, hd, he, sd, se, q⟩ := h
  obtain ⟨as, r1⟩ := Dp.reads I d x v hd rx
  obtain ⟨bs, r2⟩ := Dp.reads I (.tuple ds) y u he ry
  exact SeqAt.notIn_tuple_reads r2 r1 (SeqAt.canLay_of_shaped se) (SeqAt.canLay_of_shaped sd) (room_in_shaped sd hu) ⟨.bl _, H, I, rfl, q⟩
abbrev rInX (K : PySem.W.Frag) : R2 := fun x y H Q => rInD K x y H Q ∨ rInDT K x y H Q
abbrev rNotInX (K : PySem.W.Frag) : R2 := fun x y H Q => rNotInD K x y H Q ∨ rNotInDT K x y H Q
theorem op_inX (hu : X.A.units + 65 < cLine) : OpR X (compareOp .In) (rInX X.K) := (op_inD hu).or (op_inDT hu)
theorem op_notInX (hu : X.A.units + 65 < cLine) : OpR X (compareOp .NotIn) (rNotInX X.K) := (op_notInD hu).or (op_notInDT hu)
theorem opd_in : OpD C (rInX C.k.K) (memD false) := by
  intro σ e H x y d1 d2 Q s i1 i2 q
  unfold memD at q
  split at q
  · rename_i p ds e1
    split at q
    · rename_i xs e2
      split at q
      · rename_i hz
        rw [Bool.and_eq_true] at hz
        rw [Bool.false_xor] at q
        exact .inl ⟨p, xs, D.dpT _ _ _ i1 e1, D.dpT (.lst ds) _ _ i2 (by rw [D.py, e2]), hz.1, hz.2, q.val rfl⟩
      · exact q.elim
    · exact q.elim
  · rename_i p ds e1
    split at q
    · rename_i xs e2
      split at q
      · rename_i hz
        rw [Bool.and_eq_true] at hz
        rw [Bool.false_xor] at q
        exact .inr ⟨p, xs, D.dpT _ _ _ i1 e1, D.dpT (.tup ds) _ _ i2 (by rw [D.py, e2]), hz.1, hz.2, q.val rfl⟩
      · exact q.elim
    · exact q.elim
  · exact q.elim
theorem opd_notIn : OpD C (rNotInX C.k.K) (memD true) := by
  intro σ e H x y d1 d2 Q s i1 i2 q
  unfold memD at q
  split at q
  · rename_i p ds e1
    split at q
    · rename_i xs e2
      split at q
      · rename_i hz
        rw [Bool.and_eq_true] at hz
        rw [Bool.true_xor] at q
        exact .inl ⟨p, xs, D.dpT _ _ _ i1 e1, D.dpT (.lst ds) _ _ i2 (by rw [D.py, e2]), hz.1, hz.2, q.val rfl⟩
      · exact q.elim
    · exact q.elim
  · rename_i p ds e1
    split at q
    · rename_i xs e2
      split at q
      · rename_i hz
        rw [Bool.and_eq_true] at hz
        rw [Bool.true_xor] at q
        exact .inr ⟨p, xs, D.dpT _ _ _ i1 e1, D.dpT (.tup ds) _ _ i2 (by rw [D.py, e2]), hz.1, hz.2, q.val rfl⟩
      · exact q.elim
    · exact q.elim
  · exact q.elim
end
end Dn

namespace Dn
open PySem PySem.Spec PyProof.Rows L2

/-! ### places, slices -/
def idxD : D → D → R D
  | .lst ds, .int i => match atI ds i with
    | some d => .ok d
    | none => .bad
  | .tup ds, .int i => match atI ds i with
    | some d => .ok d
    | none => .bad
  | .scr ns, .int i => match atI ns i with
    | some n => .ok (.int n)
    | none => .bad
  | .str z, .int i => if z.length ≤ sizeLine then match atI z.cps.toList i with
      | some c => .ok (.str ⟨#[c]⟩)
      | none => .bad
    else .bad
  | _, _ => .bad
def cutG {α : Type} (xs : List α) (lo hi : Option Int) : List α := (xs.drop (HT.sIx xs.length 0 lo)).take (HT.sIx xs.length xs.length hi - HT.sIx xs.length 0 lo)
def sliR (lo hi : Option Int) : D → R D
  | .lst ds => .ok (.lst (cutG ds lo hi))
  | .tup ds => .ok (.tup (cutG ds lo hi))
  | .scr ns => .ok (.lst ((cutG ns lo hi).map .int))
  | .str z => if z.length ≤ sizeLine then .ok (.str (cutS z lo hi)) else .bad
  | _ => .bad
/-- an optional part of a slice -/
def noP : MD (Option Int) := fun e => .ok (none, e)
def soP (f : MD D) : MD (Option Int) := fun e => (f e).bind fun p => match p.1 with
  | .int i => .ok (some i, p.2)
  | _ => .bad
def sliE (f : MD D) (lo hi : MD (Option Int)) : MD D := fun e => (f e).bind fun p => (lo p.2).bind fun l => (hi l.2).bind fun u => (sliR l.1 u.1 p.1).at u.2
section
variable {X : Cx} {C : Ct}
theorem idxD_nx (a b : D) (y : Ex) (l : Lc) : idxD a b ≠ .exc y l := by
  unfold idxD
  split <;> (repeat' split) <;> simp
theorem IsDs.atI {k : Kx} {H : Hp} {M : Addr → Prop} {ds : List D} {vs : List V} {i : Int} {d : D} (h : IsDs k H M ds vs) (e : atI ds i = some d) : ∃ v, L2.atI vs i = some v ∧ IsD k H M d v := by
  unfold L2.atI at e ⊢
  rw [h.length]
  cases e1 : ixN ds.length i with
  | none =>
    rw [e1] at e
    cases e
  | some j =>
    rw [e1] at e
    exact h.get (i := j) e
theorem atI_map {α β : Type} (g : α → β) (xs : List α) (i : Int) : atI (xs.map g) i = (atI xs i).map g := by
  unfold atI
  rw [List.length_map]
  cases ixN xs.length i with
  | none => rfl
  | some j =>
    show (xs.map g)[j]? = (xs[j]?).map g
    rw [List.getElem?_map]
theorem opd_idx : OpD C (rIx C.k.K) idxD := by
  intro σ e H x y d1 d2 Q s i1 i2 q
  unfold idxD at q
  split at q
  · split at q
    · rename_i d hd
      obtain ⟨a, vs, rfl, h1, h2⟩ := i1
      cases i2
      obtain ⟨v, h3, h4⟩ := h2.atI hd
      exact .inl ⟨a, vs, _, v, rfl, rfl, .inl (.inl h1), h3, q.val h4⟩
    · exact q.elim
  · split at q
    · rename_i d hd
      obtain ⟨a, vs, rfl, h1, h2⟩ := i1
      cases i2
      obtain ⟨v, h3, h4⟩ := h2.atI hd
      exact .inr (.inl ⟨a, vs, _, v, rfl, rfl, h1, h3, q.val h4⟩)
    · exact q.elim
  · split at q
    · rename_i n hd
      obtain ⟨a, rfl, h1⟩ := i1
      cases i2
      exact .inl ⟨a, _, _, _, rfl, rfl, h1 H fun _ _ z => z, by rw [atI_map, hd]; rfl, q.val rfl⟩
    · exact q.elim
  · split at q
    · rename_i hz
      split at q
      · rename_i c hc
        cases i1
        cases i2
        exact .inr (.inr ⟨_, _, c, rfl, rfl, hz, hc, q.val rfl⟩)
      · exact q.elim
    · exact q.elim
  · exact q.elim
theorem je_ix {a b : Expr} {f g : MD D} {pos : Pos} (hK : C.k.K = X.K) (hs : PlainIx b) (ha : PE X a (tE C f)) (hb : PE X b (tE C g)) : PE X (.Subscript a b pos) (tE C (bin2 idxD f g)) := by
  refine PE.imp (pe_ix ix_seq ha hb hs) ?_
  rw [← hK]
  exact tE_bin opd_idx idxD_nx
def tO (C : Ct) (f : MD (Option Int)) : TO := fun σ H Q => ∃ e, SR C e σ H ∧ Out (fun p => ∀ H', Ext (OW C σ) H H' → SR C p.2 σ H' → Q p.1 H') (XO C σ H) (f e)
theorem PO.imp {e : Option Expr} {t t' : TO} (h : PO X e t) (i : ∀ σ H Q, t' σ H Q → t σ H Q) : PO X e t' := ⟨fun pins s σ H Q I hw => h.run pins s σ H Q I (i σ H Q hw)⟩
theorem jo_none : PO X none (tO C noP) := PO.imp po_none fun σ H Q ⟨e, s, o⟩ => o H (Ext.refl _ _) s
theorem jo_some {a : Expr} {f : MD D} (ha : PE X a (tE C f)) : PO X (some a) (tO C (soP f)) := by
  refine PO.imp (po_some ha) fun σ H Q ⟨e, s, o⟩ => ⟨e, s, (Out.bind o).imp (fun p hp => ?_) fun _ _ z => z⟩
  obtain ⟨d, e1⟩ := p
  intro v H1 x1 s1 i1
  cases d with
  | int i =>
    cases i1
    exact ⟨i, rfl, hp H1 x1 s1⟩
  | _ => exact hp.elim
abbrev rSlX (K : PySem.W.Frag) : V → Option Int → Option Int → Hp → VK → Prop := fun x lo hi H Q => rSlL K x lo hi H Q ∨ (rSlA K x lo hi H Q ∨ rSlS x lo hi H Q)
theorem sl_X : SlR X (rSlX X.K) := sl_list.or (sl_tupA.or sl_str)
theorem IsDs.cut {k : Kx} {H : Hp} {M : Addr → Prop} {ds : List D} {vs : List V} (h : IsDs k H M ds vs) (lo hi : Option Int) : IsDs k H M (cutG ds lo hi) (cutV vs lo hi) := by
  unfold cutG cutV
  rw [h.length]
  exact (h.drop _).take _
theorem cut_whole {α : Type} {xs : List α} {lo hi : Option Int} (h : HT.sIx xs.length 0 lo = 0 ∧ HT.sIx xs.length xs.length hi = xs.length) : cutG xs lo hi = xs := by
  unfold cutG
  rw [h.1, h.2]
  simp
theorem je_sli {a : Expr} {f : MD D} {fl fu : MD (Option Int)} {lo hi : Option Expr} {pos p2 : Pos} (hK : C.k.K = X.K) (ha : PE X a (tE C f)) (hl : PO X lo (tO C fl)) (hu : PO X hi (tO C fu)) : PE X (.Subscript a (.Slice lo hi none p2) pos) (tE C (sliE f fl fu)) := by
  refine PE.imp (pe_slice sl_X ha hl hu) fun σ H Q ⟨e, s, o⟩ => ⟨e, s, (Out.bind o).imp (fun p hp => ?_) fun _ _ z => z⟩
  rw [← hK]
  intro v H1 x1 s1 i1
  refine ⟨p.2, s1, (Out.bind hp).imp (fun l hl => ?_) fun _ _ z => z.ext x1⟩
  intro H2 x2 s2
  refine ⟨l.2, s2, (Out.bind hl).imp (fun u hu => ?_) fun _ _ z => z.ext (x1.trans x2)⟩
  intro H3 x3 s3
  have i3 := (Stp.of (x2.trans x3)).isD i1
  have q : PNew C σ H3 Q (sliR l.1 u.1 p.1) := PNew.of hu ((x1.trans x2).trans x3) s3 (fun y l => by
    unfold sliR
    split <;> (try split) <;> simp)
  unfold sliR at q
  split at q
  · rename_i ds e0
    rw [e0] at i3
    obtain ⟨a, vs, rfl, h1, _, h2⟩ := i3
    exact .inl ⟨a, vs, rfl, .inl (.inl h1), fun p hp => q.lst s3 hp (h2.cut _ _)⟩
  · rename_i ds e0
    rw [e0] at i3
    obtain ⟨a, vs, rfl, h1, h2⟩ := i3
    refine .inr (.inl ⟨a, vs, rfl, h1, fun hw => ?_, fun _ p hp => q.tup (e := e) hp (h2.cut _ _)⟩)
    rw [h2.length] at hw
    rw [cut_whole hw] at q
    exact q.val ⟨a, vs, rfl, h1, h2⟩
  · rename_i ns e0
    rw [e0] at i3
    obtain ⟨a, rfl, h1⟩ := i3
    refine .inl ⟨a, _, rfl, h1 H3 fun _ _ z => z, fun p hp => q.lst s3 hp ?_⟩
    have : ∀ (ms : List Int), IsDs C.k H3 (MO C σ) (ms.map .int) (ms.map V.int) := fun ms => by
      induction ms with
      | nil => exact rfl
      | cons m r ih => exact .cons rfl ih
    have e1 : cutV (ns.map V.int) l.1 u.1 = (cutG ns l.1 u.1).map V.int := by
      unfold cutV cutG
      rw [List.length_map, List.map_take, List.map_drop]
    rw [e1]
    exact this _
  · split at q
    · rename_i z e0 hz
      rw [e0] at i3
      cases i3
      exact .inr (.inr ⟨_, rfl, hz, q.val rfl⟩)
    · exact q.elim
  · exact q.elim

/-! ### calls of built-ins -/
def callD (F : List D → R D) (fa : MD (List D)) : MD D := fun e => (fa e).bind fun p => (F p.1).at p.2
def CaD (C : Ct) (r : List V → Hp → VK → Prop) (F : List D → R D) : Prop := ∀ (σ : L2.St) (e : Lc) (H : Hp) (vs : List V) (ds : List D) (Q : VK), SR C e σ H → IsTs C.k H (MO C σ) ds vs → PNew C σ H Q (F ds) → r vs H Q
theorem tE_call {r : List V → Hp → VK → Prop} {F : List D → R D} {fa : MD (List D)} (hd : CaD C r F) (nx : ∀ a y l, F a ≠ .exc y l) (σ : L2.St) (H : Hp) (Q : VK) (h : tE C (callD F fa) σ H Q) : tCB r (tA C fa) σ H Q := by
  obtain ⟨e, s, o⟩ := h
  refine ⟨e, s, (Out.bind o).imp (fun p hp => ?_) fun _ _ z => z⟩
  intro vs H1 x1 s1 i1
  exact hd σ p.2 H1 vs p.1 Q s1 i1.t (PNew.of hp x1 s1 (nx _))
section
variable {x : Str} {p pos : Pos} {e : Expr} {es : List Expr} {id T : String} {r : List V → Hp → VK → Prop} {F : List D → R D} {fa : MD (List D)}
theorem je_callB (hc : CallR X (.builtin id) r) (hd : CaD C r F) (nx : ∀ a y l, F a ≠ .exc y l) (hg : Gl X x) (hm : X.mg x = none) (hv : bootBuiltins x = some (.builtin id)) (ha : PA X (e :: es) (tA C fa)) (hn : x ≠ "__name__" := by decide) (hdb : (x == ("__debug__" : Str)) = false := by decide)
    (he : starEach (e :: es) X.env = (false, eval e X.env) :: starEach es X.env := by rfl) (hpl : (backTo pos (starEach es X.env)).any (·.1) = false := by rfl) : PE X (.Call (.Name x p) (e :: es) [] pos) (tE C (callD F fa)) :=
  PE.imp (pe_callB hc hg hm hv ha hn hdb he hpl) (tE_call hd nx)
theorem je_callTy (hc : CallR X (.type T) r) (hd : CaD C r F) (nx : ∀ a y l, F a ≠ .exc y l) (hg : Gl X x) (hm : X.mg x = none) (hv : bootBuiltins x = some (.type T)) (ha : PA X (e :: es) (tA C fa)) (hn : x ≠ "__name__" := by decide) (hdb : (x == ("__debug__" : Str)) = false := by decide)
    (he : starEach (e :: es) X.env = (false, eval e X.env) :: starEach es X.env := by rfl) (hpl : (backTo pos (starEach es X.env)).any (·.1) = false := by rfl) : PE X (.Call (.Name x p) (e :: es) [] pos) (tE C (callD F fa)) :=
  PE.imp (pe_callTy hc hg hm hv ha hn hdb he hpl) (tE_call hd nx)
end
/-- len -/
def lenD : List D → R D
  | [.lst ds] => .ok (.int ds.length)
  | [.tup ds] => .ok (.int ds.length)
  | [.scr ns] => .ok (.int ns.length)
  | [.dct ks _] => .ok (.int ks.length)
  | [.str z] => if z.length ≤ sizeLine then .ok (.int z.length) else .bad
  | _ => .bad
abbrev rLenD : List V → Hp → VK → Prop := fun xs H Q => ∃ a kvs, xs = [V.ref a] ∧ H a = some (.dK kvs) ∧ Q (.int kvs.length) H
abbrev rLenX (K : PySem.W.Frag) : List V → Hp → VK → Prop := fun xs H Q => (∃ x n, xs = [x] ∧ LenV K x H n ∧ Q (.int n) H) ∨ rLenD xs H Q
theorem call_lenX : CallR X (.builtin "len") (rLenX X.K) := call_len.or call_lenD
theorem IsTs.one {k : Kx} {H : Hp} {M : Addr → Prop} {d : D} {vs : List V} (h : IsTs k H M [d] vs) : ∃ v, vs = [v] ∧ IsT k H M d v := by
  obtain ⟨v, r, e, h1, h2⟩ := h
  rw [show r = [] from h2] at e
  exact ⟨v, e, h1⟩
theorem IsTs.two {k : Kx} {H : Hp} {M : Addr → Prop} {d d' : D} {vs : List V} (h : IsTs k H M [d, d'] vs) : ∃ v w, vs = [v, w] ∧ IsT k H M d v ∧ IsT k H M d' w := by
  obtain ⟨v, r, e, h1, h2⟩ := h
  obtain ⟨w, e2, h3⟩ := IsTs.one h2
  subst e2
  exact ⟨v, w, e, h1, h3⟩
theorem lenD_nx (a : List D) (y : Ex) (l : Lc) : lenD a ≠ .exc y l := by
  unfold lenD
  split <;> (try split) <;> simp
theorem cad_len : CaD C (rLenX C.k.K) lenD := by
  intro σ e H vs ds Q s i q
  unfold lenD at q
  split at q
  · obtain ⟨v, rfl, a, ws, rfl, h1, h2⟩ := i.one
    exact .inl ⟨_, _, rfl, .inl ⟨ws, .inl (.inl h1), h2.length.symm⟩, q.val rfl⟩
  · obtain ⟨v, rfl, a, ws, rfl, h1, h2⟩ := i.one
    exact .inl ⟨_, _, rfl, .inr ⟨ws, h1, h2.length.symm⟩, q.val rfl⟩
  · obtain ⟨v, rfl, a, rfl, h1⟩ := i.one
    exact .inl ⟨_, _, rfl, .inl ⟨_, h1 H fun _ _ z => z, (List.length_map _).symm⟩, q.val rfl⟩
  · obtain ⟨v, rfl, a, kvs, rfl, h1, h2, _⟩ := i.one
    refine .inr ⟨a, kvs, rfl, h1, ?_⟩
    rw [← h2, List.length_map] at q
    exact q.val rfl
  · split at q
    · rename_i hz
      obtain ⟨v, rfl, h⟩ := i.one
      cases h
      exact .inl ⟨_, _, rfl, ⟨hz, rfl⟩, q.val rfl⟩
    · exact q.elim
  · exact q.elim
/-- abs, int, bool of numbers -/
def absD : List D → R D
  | [.int i] => .ok (.int (if i < 0 then -i else i))
  | _ => .bad
def intD : List D → R D
  | [.int i] => .ok (.int i)
  | [.bl b] => .ok (.int (if b then 1 else 0))
  | _ => .bad
def boolD : List D → R D
  | [.int i] => .ok (.bl (i != 0))
  | [.bl b] => .ok (.bl b)
  | _ => .bad
def maxD : List D → R D
  | [.int i, .int j] => .ok (.int (if j > i then j else i))
  | [.lst ds] => match intsD ds with
    | some (n :: ns) => .ok (.int (ns.foldl max n))
    | _ => .bad
  | _ => .bad
def minD : List D → R D
  | [.int i, .int j] => .ok (.int (if j < i then j else i))
  | [.lst ds] => match intsD ds with
    | some (n :: ns) => .ok (.int (ns.foldl min n))
    | _ => .bad
  | _ => .bad
def sumD : List D → R D
  | [.lst ds] => match intsD ds with
    | some ns => .ok (.int ns.sum)
    | none => .bad
  | _ => .bad
def blsD : List D → Option (List Bool)
  | [] => some []
  | .bl b :: r => match blsD r with
    | some bs => some (b :: bs)
    | none => none
  | _ :: _ => none
def allD : List D → R D
  | [.lst ds] => match blsD ds with
    | some bs => .ok (.bl (bs.all id))
    | none => .bad
  | _ => .bad
def anyD : List D → R D
  | [.lst ds] => match blsD ds with
    | some bs => .ok (.bl (bs.any id))
    | none => .bad
  | _ => .bad
def tupleD : List D → R D
  | [.lst ds] => .ok (.tup ds)
  | [.tup ds] => .ok (.tup ds)
  | _ => .bad
def listD : List D → R D
  | [.lst ds] => .ok (.lst ds)
  | [.tup ds] => .ok (.lst ds)
  | _ => .bad
def divmodD : List D → R D
  | [.int i, .int j] => if 0 < j ∧ j < 1073741824 then .ok (.tup [.int (i / j), .int (i % j)]) else .bad
  | _ => .bad
theorem absD_nx (a : List D) (y : Ex) (l : Lc) : absD a ≠ .exc y l := by unfold absD; split <;> simp
theorem intD_nx (a : List D) (y : Ex) (l : Lc) : intD a ≠ .exc y l := by unfold intD; split <;> simp
theorem boolD_nx (a : List D) (y : Ex) (l : Lc) : boolD a ≠ .exc y l := by unfold boolD; split <;> simp
theorem maxD_nx (a : List D) (y : Ex) (l : Lc) : maxD a ≠ .exc y l := by unfold maxD; split <;> (try split) <;> simp
theorem minD_nx (a : List D) (y : Ex) (l : Lc) : minD a ≠ .exc y l := by unfold minD; split <;> (try split) <;> simp
theorem sumD_nx (a : List D) (y : Ex) (l : Lc) : sumD a ≠ .exc y l := by unfold sumD; split <;> (try split) <;> simp
theorem allD_nx (a : List D) (y : Ex) (l : Lc) : allD a ≠ .exc y l := by unfold allD; split <;> (try split) <;> simp
theorem anyD_nx (a : List D) (y : Ex) (l : Lc) : anyD a ≠ .exc y l := by unfold anyD; split <;> (try split) <;> simp
theorem tupleD_nx (a : List D) (y : Ex) (l : Lc) : tupleD a ≠ .exc y l := by unfold tupleD; split <;> simp
theorem listD_nx (a : List D) (y : Ex) (l : Lc) : listD a ≠ .exc y l := by unfold listD; split <;> simp
theorem divmodD_nx (a : List D) (y : Ex) (l : Lc) : divmodD a ≠ .exc y l := by unfold divmodD; split <;> (try split) <;> simp
theorem cad_abs : CaD C (fun xs H Q => ∃ i, xs = [.int i] ∧ Q (.int (if i < 0 then -i else i)) H) absD := by
  intro σ e H vs ds Q s i q
  unfold absD at q
  split at q
  · obtain ⟨v, rfl, h⟩ := i.one
    cases h
    exact ⟨_, rfl, q.val rfl⟩
  · exact q.elim
theorem cad_int : CaD C (fun xs H Q => (∃ i, xs = [.int i] ∧ Q (.int i) H) ∨ ∃ k, xs = [.bl k] ∧ Q (.int (if k then 1 else 0)) H) intD := by
  intro σ e H vs ds Q s i q
  unfold intD at q
  split at q
  · obtain ⟨v, rfl, h⟩ := i.one
    cases h
    exact .inl ⟨_, rfl, q.val rfl⟩
  · obtain ⟨v, rfl, h⟩ := i.one
    cases h
    exact .inr ⟨_, rfl, q.val rfl⟩
  · exact q.elim
theorem cad_bool : CaD C (fun xs H Q => (∃ i, xs = [.int i] ∧ Q (.bl (i != 0)) H) ∨ ∃ k, xs = [.bl k] ∧ Q (.bl k) H) boolD := by
  intro σ e H vs ds Q s i q
  unfold boolD at q
  split at q
  · obtain ⟨v, rfl, h⟩ := i.one
    cases h
    exact .inl ⟨_, rfl, q.val rfl⟩
  · obtain ⟨v, rfl, h⟩ := i.one
    cases h
    exact .inr ⟨_, rfl, q.val rfl⟩
  · exact q.elim
theorem foldl_max_mem : ∀ (ns : List Int) (n : Int), ns.foldl max n ∈ n :: ns ∧ ∀ y ∈ n :: ns, y ≤ ns.foldl max n
  | [], n => ⟨List.mem_cons_self, fun y h => by
    rcases List.mem_cons.mp h with h | h
    · rw [h]; exact Int.le_refl _
    · cases h⟩
  | m :: ns, n => by
    obtain ⟨h1, h2⟩ := foldl_max_mem ns (max n m)
    refine ⟨?_, fun y h => ?_⟩
    · rw [List.foldl_cons]
      rcases List.mem_cons.mp h1 with h | h
      · rw [h]
        rcases Int.le_total n m with z | z
        · rw [Int.max_eq_right z]
          exact List.mem_cons_of_mem _ List.mem_cons_self
        · rw [Int.max_eq_left z]
          exact List.mem_cons_self
      · exact List.mem_cons_of_mem _ (List.mem_cons_of_mem _ h)
    · rw [List.foldl_cons]
      have h3 := h2 (max n m) List.mem_cons_self
      rcases List.mem_cons.mp h with h | h
      · have := Int.le_max_left n m
        omega
      · rcases List.mem_cons.mp h with h | h
        · have := Int.le_max_right n m
          omega
        · exact h2 y (List.mem_cons_of_mem _ h)
theorem foldl_min_mem : ∀ (ns : List Int) (n : Int), ns.foldl min n ∈ n :: ns ∧ ∀ y ∈ n :: ns, ns.foldl min n ≤ y
  | [], n => ⟨List.mem_cons_self, fun y h => by
    rcases List.mem_cons.mp h with h | h
    · rw [h]; exact Int.le_refl _
    · cases h⟩
  | m :: ns, n => by
    obtain ⟨h1, h2⟩ := foldl_min_mem ns (min n m)
    refine ⟨?_, fun y h => ?_⟩
    · rw [List.foldl_cons]
      rcases List.mem_cons.mp h1 with h | h
      · rw [h]
        rcases Int.le_total n m with z | z
        · rw [Int.min_eq_left z]
          exact List.mem_cons_self
        · rw [Int.min_eq_right z]
          exact List.mem_cons_of_mem _ List.mem_cons_self
      · exact List.mem_cons_of_mem _ (List.mem_cons_of_mem _ h)
    · rw [List.foldl_cons]
      have h3 := h2 (min n m) List.mem_cons_self
      rcases List.mem_cons.mp h with h | h
      · have := Int.min_le_left n m
        omega
      · rcases List.mem_cons.mp h with h | h
        · have := Int.min_le_right n m
          omega
        · exact h2 y (List.mem_cons_of_mem _ h)
abbrev rMaxX (K : PySem.W.Frag) : List V → Hp → VK → Prop := fun xs H Q => (∃ i j, xs = [.int i, .int j] ∧ Q (.int (if j > i then j else i)) H) ∨ rMax K xs H Q
abbrev rMinX (K : PySem.W.Frag) : List V → Hp → VK → Prop := fun xs H Q => (∃ i j, xs = [.int i, .int j] ∧ Q (.int (if j < i then j else i)) H) ∨ rMin K xs H Q
theorem call_maxX (hc : X.calm = true) : CallR X (.builtin "max") (rMaxX X.K) := (call_max2 hc).or (cr_max hc)
theorem call_minX (hc : X.calm = true) : CallR X (.builtin "min") (rMinX X.K) := (call_min2 hc).or (cr_min hc)
theorem max_uniq {ns : List Int} {a b : Int} (h1 : a ∈ ns) (h2 : ∀ y ∈ ns, y ≤ a) (h3 : b ∈ ns) (h4 : ∀ y ∈ ns, y ≤ b) : a = b := by
  have := h2 b h3
  have := h4 a h1
  omega
theorem cad_max : CaD C (rMaxX C.k.K) maxD := by
  intro σ e H vs ds Q s i q
  unfold maxD at q
  split at q
  · obtain ⟨v, w, rfl, h, h'⟩ := i.two
    cases h
    cases h'
    exact .inl ⟨_, _, rfl, q.val rfl⟩
  · split at q
    · rename_i n ns e1
      obtain ⟨v, rfl, a, ws, rfl, h1, h2⟩ := i.one
      rw [ints_of h2 e1] at h1
      refine .inr ⟨a, _, rfl, .inl (.inl h1), by simp, fun m hm hy => ?_⟩
      obtain ⟨h3, h4⟩ := foldl_max_mem ns n
      rw [max_uniq hm hy h3 h4]
      exact q.val rfl
    · exact q.elim
  · exact q.elim
theorem cad_min : CaD C (rMinX C.k.K) minD := by
  intro σ e H vs ds Q s i q
  unfold minD at q
  split at q
  · obtain ⟨v, w, rfl, h, h'⟩ := i.two
    cases h
    cases h'
    exact .inl ⟨_, _, rfl, q.val rfl⟩
  · split at q
    · rename_i n ns e1
      obtain ⟨v, rfl, a, ws, rfl, h1, h2⟩ := i.one
      rw [ints_of h2 e1] at h1
      refine .inr ⟨a, _, rfl, .inl (.inl h1), by simp, fun m hm hy => ?_⟩
      obtain ⟨h3, h4⟩ := foldl_min_mem ns n
      have e2 : m = ns.foldl min n := by
        have := hy _ h3
        have := h4 _ hm
        omega
      rw [e2]
      exact q.val rfl
    · exact q.elim
  · exact q.elim
theorem cad_sum : CaD C (rSum C.k.K) sumD := by
  intro σ e H vs ds Q s i q
  unfold sumD at q
  split at q
  · split at q
    · rename_i ns e1
      obtain ⟨v, rfl, a, ws, rfl, h1, h2⟩ := i.one
      rw [ints_of h2 e1] at h1
      exact ⟨a, ns, rfl, .inl (.inl h1), q.val rfl⟩
    · exact q.elim
  · exact q.elim
theorem bls_of {k : Kx} {H : Hp} {M : Addr → Prop} : ∀ {ds : List D} {vs : List V} {bs : List Bool}, IsDs k H M ds vs → blsD ds = some bs → vs = bs.map V.bl
  | [], vs, bs, i, e => by
    cases e
    exact i
  | .bl j :: r, vs, bs, ⟨v, vr, e1, h1, h2⟩, e => by
    unfold blsD at e
    split at e
    · rename_i xs e2
      cases e
      cases h1
      rw [e1, bls_of h2 e2]
      rfl
    · cases e
  | .non :: r, vs, ns, _, e => by cases e
  | .int _ :: r, vs, ns, _, e => by cases e
  | .str _ :: r, vs, ns, _, e => by cases e
  | .tup _ :: r, vs, ns, _, e => by cases e
  | .lst _ :: r, vs, ns, _, e => by cases e
  | .dct _ _ :: r, vs, ns, _, e => by cases e
  | .fn _ :: r, vs, ns, _, e => by cases e
  | .scr _ :: r, vs, ns, _, e => by cases e
theorem cad_all : CaD C (rAll C.k.K) allD := by
  intro σ e H vs ds Q s i q
  unfold allD at q
  split at q
  · split at q
    · rename_i ns e1
      obtain ⟨v, rfl, a, ws, rfl, h1, h2⟩ := i.one
      rw [bls_of h2 e1] at h1
      exact ⟨a, ns, rfl, .inl (.inl h1), q.val rfl⟩
    · exact q.elim
  · exact q.elim
theorem cad_any : CaD C (rAny C.k.K) anyD := by
  intro σ e H vs ds Q s i q
  unfold anyD at q
  split at q
  · split at q
    · rename_i ns e1
      obtain ⟨v, rfl, a, ws, rfl, h1, h2⟩ := i.one
      rw [bls_of h2 e1] at h1
      exact ⟨a, ns, rfl, .inl (.inl h1), q.val rfl⟩
    · exact q.elim
  · exact q.elim
abbrev rTupleX (K : PySem.W.Frag) : List V → Hp → VK → Prop := fun xs H Q => ∃ p ys, xs = [.ref p] ∧ ((SqL K H p ys ∧ ∀ l, H l = none → Q (.ref l) (upd H l (.tup ys))) ∨ (SqT K H p ys ∧ Q (.ref p) H))
abbrev rListX (K : PySem.W.Frag) : List V → Hp → VK → Prop := fun xs H Q => ∃ p ys, xs = [.ref p] ∧ (SqL K H p ys ∨ SqT K H p ys) ∧ ∀ l, H l = none → Q (.ref l) (upd H l (.lst ys))
theorem cad_tuple : CaD C (rTupleX C.k.K) tupleD := by
  intro σ e H vs ds Q s i q
  unfold tupleD at q
  split at q
  · obtain ⟨v, rfl, a, ws, rfl, h1, h2⟩ := i.one
    exact ⟨a, ws, rfl, .inl ⟨.inl (.inl h1), fun l hl => q.tup (e := e) hl h2⟩⟩
  · obtain ⟨v, rfl, a, ws, rfl, h1, h2⟩ := i.one
    exact ⟨a, ws, rfl, .inr ⟨h1, q.val ⟨a, ws, rfl, h1, h2⟩⟩⟩
  · exact q.elim
theorem cad_list : CaD C (rListX C.k.K) listD := by
  intro σ e H vs ds Q s i q
  unfold listD at q
  split at q
  · obtain ⟨v, rfl, a, ws, rfl, h1, h2⟩ := i.one
    exact ⟨a, ws, rfl, .inl (.inl (.inl h1)), fun l hl => q.lst s hl h2⟩
  · obtain ⟨v, rfl, a, ws, rfl, h1, h2⟩ := i.one
    exact ⟨a, ws, rfl, .inr h1, fun l hl => q.lst s hl h2⟩
  · exact q.elim
theorem cad_divmod : CaD C (fun xs H Q => ∃ i j, xs = [.int i, .int j] ∧ CDiv i j ∧ ∀ p, H p = none → Q (.ref p) (upd H p (.tup [.int (i / j), .int (i % j)]))) divmodD := by
  intro σ e H vs ds Q s i q
  unfold divmodD at q
  split at q
  · split at q
    · rename_i hz
      obtain ⟨v, w, rfl, h, h'⟩ := i.two
      cases h
      cases h'
      exact ⟨_, _, rfl, hz, fun p hp => q.tup (e := e) hp (.cons rfl (.cons rfl .nil))⟩
    · exact q.elim
  · exact q.elim

/-! ### isinstance -/
def isiD (f : D → Option Bool) : D → R D := fun d => match f d with
  | some b => .ok (.bl b)
  | none => .bad
def isInt : D → Option Bool
  | .int _ => some true
  | .bl _ => some true
  | .fn _ => none
  | _ => some false
def isBool : D → Option Bool
  | .bl _ => some true
  | .fn _ => none
  | _ => some false
def isTup : D → Option Bool
  | .tup _ => some true
  | .fn _ => none
  | _ => some false
def isStr : D → Option Bool
  | .str _ => some true
  | .fn _ => none
  | _ => some false
def isLst : D → Option Bool
  | .lst _ => some true
  | .scr _ => some true
  | .fn _ => none
  | _ => some false
/-- F is isinstance's answer for the type T -/
def IsiOk (T : String) (F : D → Option Bool) : Prop := ∀ (k : Kx) (H : Hp) (M : Addr → Prop) (d : D) (v : V) (b : Bool), IsD k H M d v → F d = some b → ∃ t, TyX k.K H v t ∧ PySem.W.kitOne k.K t (.type T) = some b
theorem scr_ty {K : PySem.W.Frag} {H : Hp} {a : Addr} {xs : List V} (h : SqL K H a xs) : TyX K H (.ref a) (.type "list") := by
  rcases h with (h | ⟨o, h⟩) | ⟨o, its, n, h1, h2, _⟩
  · exact .base (.lst h)
  · exact .base (.frz h)
  · exact .kList h1 h2
theorem tup_ty {K : PySem.W.Frag} {H : Hp} {a : Addr} {xs : List V} (h : SqT K H a xs) : TyX K H (.ref a) (.type "tuple") := by
  rcases h with (h | ⟨o, h⟩) | ⟨o, its, n, h1, h2, _⟩
  · exact .base (.tup h)
  · exact .fTuple h
  · exact .kTuple h1 h2
theorem isi_mk {T : String} {F : D → Option Bool} (hn : ∀ b, F .non = some b → kitB "NoneType" T = some b) (hb : ∀ c b, F (.bl c) = some b → kitB "bool" T = some b) (hi : ∀ c b, F (.int c) = some b → kitB "int" T = some b) (hs : ∀ c b, F (.str c) = some b → kitB "str" T = some b)
    (ht : ∀ c b, F (.tup c) = some b → kitB "tuple" T = some b) (hl : ∀ c b, F (.lst c) = some b → kitB "list" T = some b) (hr : ∀ c b, F (.scr c) = some b → kitB "list" T = some b) (hd : ∀ c c' b, F (.dct c c') = some b → kitB "dict" T = some b) (hf : ∀ c, F (.fn c) = none) : IsiOk T F := by
  intro k H M d v b i e
  cases d with
  | non => cases i; exact ⟨_, .base .non, kit_ty (hn b e)⟩
  | bl c => cases i; exact ⟨_, .base (.bl c), kit_ty (hb c b e)⟩
  | int c => cases i; exact ⟨_, .base (.int c), kit_ty (hi c b e)⟩
  | str c => cases i; exact ⟨_, .base (.str c), kit_ty (hs c b e)⟩
  | tup c => obtain ⟨a, vs, rfl, h1, _⟩ := i; exact ⟨_, tup_ty h1, kit_ty (ht c b e)⟩
  | lst c => obtain ⟨a, vs, rfl, h1, _⟩ := i; exact ⟨_, .base (.lst h1), kit_ty (hl c b e)⟩
  | scr c => obtain ⟨a, rfl, h1⟩ := i; exact ⟨_, scr_ty (h1 H fun _ _ z => z), kit_ty (hr c b e)⟩
  | dct c c' => obtain ⟨a, vs, rfl, h1, _⟩ := i; exact ⟨_, .base (.dK h1), kit_ty (hd c c' b e)⟩
  | fn c =>
    rw [hf c] at e
    cases e
end
end Dn

namespace Dn
open PySem PySem.Spec PyProof.Rows L2

/-! ### statements -/
inductive Fl where
  | nx | rt (d : D) | bk | ct
abbrev MS := Lc → R (Fl × Lc)
def XS (C : Ct) (σ : L2.St) (H : Hp) : Ex → Lc → Prop := fun x e => ∀ cls xd σ' H', Stp C σ H σ' H' → SR C e σ' H' → ExR C.k (MO C σ') x cls xd H' → C.W cls xd σ' H'
/-- a new list is given back -/
def RNew (C : Ct) (e : Lc) (H' : Hp) (d : D) (v : V) : Prop := ∃ ds q vs, d = .lst ds ∧ v = .ref q ∧ C.H0 q = none ∧ H' q = some (.lst vs) ∧ IsDs C.k (era H' q) C.M ds vs ∧ ∀ a, C.par = some a → ∀ d0, e[0]? = some (some d0) → 0 ∈ C.own → OwnD C.k (era H' q) C.M d0 a
/-- what a return leaves -/
structure SE (C : Ct) (e : Lc) (H' : Hp) : Prop where
  ext : ∀ a o, C.H0 a = some o → (C.par ≠ some a ∨ Fx o) → H' a = some o
  own0 : ∀ a, C.par = some a → ∀ d0, e[0]? = some (some d0) → 0 ∈ C.own → OwnD C.k H' C.M d0 a
theorem SR.se {C : Ct} {e : Lc} {σ : L2.St} {H : Hp} (s : SR C e σ H) : SE C e H := ⟨s.ext, fun a ha d0 he h0 => by
  obtain ⟨b', h5, h6⟩ := s.ow 0 d0 h0 he
  rw [s.p0 a ha] at h5
  cases h5
  exact OwnD.step (Ext.refl _ _) (fun b z => .inl (.inl z)) h6 fun _ z => z⟩
def PSt (C : Ct) (σ : L2.St) (H : Hp) (Dn : Ends) (p : Fl × Lc) : Prop := match p.1 with
  | .nx => ∀ σ' H', Stp C σ H σ' H' → SR C p.2 σ' H' → Dn.nx σ' H'
  | .rt d => ∀ v H', SE C p.2 H' → IsD C.k H' C.M d v → (C.nw = true → RNew C p.2 H' d v) → Dn.rt v H'
  | .bk => ∀ σ' H', Stp C σ H σ' H' → SR C p.2 σ' H' → Dn.bk σ' H'
  | .ct => ∀ σ' H', Stp C σ H σ' H' → SR C p.2 σ' H' → Dn.ct σ' H'
def OS (C : Ct) (σ : L2.St) (H : Hp) (Dn : Ends) (r : R (Fl × Lc)) : Prop := Out (PSt C σ H Dn) (XS C σ H) r
def tS (C : Ct) (f : MS) : TS := fun Dn σ H => ∃ e, SR C e σ H ∧ OS C σ H Dn (f e)
section
variable {X : Cx} {C : Ct}
theorem XS.xo {σ : L2.St} {H : Hp} {x : Ex} {e : Lc} (h : XS C σ H x e) : XO C σ H x e := fun cls xd H' x' s' r => h cls xd σ H' (Stp.of x') s' r
theorem XS.step {σ σ1 : L2.St} {H H1 : Hp} {x : Ex} {e : Lc} (h : XS C σ H x e) (a : Stp C σ H σ1 H1) : XS C σ1 H1 x e := fun cls xd σ' H' x' s' r => h cls xd σ' H' (a.trans x') s' r
theorem OS.step {σ σ1 : L2.St} {H H1 : Hp} {Dn : Ends} {r : R (Fl × Lc)} (h : OS C σ H Dn r) (a : Stp C σ H σ1 H1) : OS C σ1 H1 Dn r := by
  refine h.imp (fun p hp => ?_) fun _ _ z => z.step a
  obtain ⟨fl, e⟩ := p
  cases fl with
  | nx => exact fun σ' H' x' s' => hp σ' H' (a.trans x') s'
  | rt d => exact hp
  | bk => exact fun σ' H' x' s' => hp σ' H' (a.trans x') s'
  | ct => exact fun σ' H' x' s' => hp σ' H' (a.trans x') s'
def nxS : MS := fun e => .ok (.nx, e)
def seqS (f g : MS) : MS := fun e => (f e).bind fun p => match p.1 with
  | .nx => g p.2
  | fl => .ok (fl, p.2)
variable {st : Stmt} {sts : List Stmt} {f g : MS} {a b c : Expr} {fe ge : MD D} {pos : Pos}
theorem js_nil : PSs X [] (tS C nxS) := PSs.imp pss_nil fun D σ H ⟨e, s, o⟩ => o σ H Stp.refl s
theorem tS_seq {D : Ends} {σ : L2.St} {H : Hp} (h : tS C (seqS f g) D σ H) : tSeq (tS C f) (tS C g) D σ H := by
  obtain ⟨e, s, o⟩ := h
  refine ⟨e, s, (Out.bind o).imp (fun p hp => ?_) fun _ _ z => z⟩
  obtain ⟨fl, e1⟩ := p
  cases fl with
  | nx => exact fun σ' H' x' s' => ⟨e1, s', OS.step hp x'⟩
  | rt d => exact hp
  | bk => exact hp
  | ct => exact hp
theorem js_cons (h1 : PS X st (tS C f)) (h2 : PSs X sts (tS C g)) : PSs X (st :: sts) (tS C (seqS f g)) := PSs.imp (pss_cons h1 h2) fun D σ H h => tS_seq h
theorem js_one (h1 : PS X st (tS C f)) : PSs X [st] (tS C f) := pss_one h1
def passS : MS := fun e => .ok (.nx, e)
def bkS : MS := fun e => .ok (.bk, e)
def ctS : MS := fun e => .ok (.ct, e)
theorem js_pass : PS X (.Pass pos) (tS C passS) := PS.imp ps_pass fun D σ H ⟨e, s, o⟩ => o σ H Stp.refl s
theorem js_break : PS X (.Break pos) (tS C bkS) := PS.imp ps_break fun D σ H ⟨e, s, o⟩ => o σ H Stp.refl s
theorem js_continue : PS X (.Continue pos) (tS C ctS) := PS.imp ps_continue fun D σ H ⟨e, s, o⟩ => o σ H Stp.refl s
def expS (f : MD D) : MS := fun e => (f e).bind fun p => .ok (.nx, p.2)
theorem js_expr (he : PE X a (tE C fe)) (hs : swapsWith a none pos.line X.env = pure false := by rfl) : PS X (.Expr a pos) (tS C (expS fe)) := by
  refine PS.imp (ps_expr he hs) fun D σ H ⟨e, s, o⟩ => ⟨e, s, (Out.bind o).imp (fun p hp => ?_) fun _ _ z => z.xo⟩
  intro v H1 x1 s1 i1
  exact hp σ H1 (Stp.of x1) s1
def retS (f : MD D) : MS := fun e => (f e).bind fun p => .ok (.rt p.1, p.2)
theorem js_ret (he : PE X a (tE C fe)) (hn : C.nw = false := by rfl) : PS X (.Return (some a) pos) (tS C (retS fe)) := by
  refine PS.imp (ps_ret he) fun D σ H ⟨e, s, o⟩ => ⟨e, s, (Out.bind o).imp (fun p hp => ?_) fun _ _ z => z.xo⟩
  intro v H1 x1 s1 i1
  exact hp v H1 s1.se (i1.mono fun _ z => .inl z) fun z => by rw [hn] at z; cases z
def retN : MS := fun e => .ok (.rt .non, e)
theorem js_retN (hn : C.nw = false := by rfl) : PS X (.Return none pos) (tS C retN) := PS.imp ps_retN fun D σ H ⟨e, s, o⟩ => o .non H s.se rfl fun z => by rw [hn] at z; cases z
/-- slot 0 bears what may be changed of the caller's, if anything -/
def Free (C : Ct) (i : Nat) : Prop := C.par = none ∨ (0 ∈ C.own ∧ i ≠ 0)
theorem OwnD.isD {k : Kx} {H : Hp} {M M' : Addr → Prop} {d : D} {a : Addr} (h : OwnD k H M d a) (m : ∀ b, M' b → M b) (n : ¬ M' a) : IsD k H M' d (.ref a) := by
  cases d with
  | lst ds =>
    obtain ⟨vs, h1, h2⟩ := h
    exact ⟨a, vs, rfl, h1, n, h2.mono m⟩
  | dct ks ds =>
    obtain ⟨kvs, h1, h2, h3⟩ := h
    exact ⟨a, kvs, rfl, h1, n, h2, h3.mono m⟩
  | _ => exact h.elim
theorem SR.fresh0 {e : Lc} {σ : L2.St} {H : Hp} (s : SR C e σ H) {i : Nat} {a : Addr} (hi : i ∈ C.own) (hf : Free C i) (h : σ[i]? = some (some (.ref a))) : ¬ C.M a := by
  rcases s.nm i a hi h with z | z
  · exact z
  · rcases hf with hf | ⟨h0, hf⟩
    · rw [hf] at z
      cases z
    · exact absurd (s.dist i 0 a hi h0 h (s.p0 a z)) hf
/-- return of a list or dict that the def made -/
theorem js_retO {i : Nat} {x : Str} {px : Pos} (hi : i ∈ C.own) (hf : Free C i) (hN : X.N[i]? = some x) (hv : Vis X.env.scope x) (hn : C.nw = false := by rfl) (hd : (x == ("__debug__" : Str)) = false := by decide) (hcd : (x == ("__classdict__" : Str)) = false := by decide) : PS X (.Return (some (.Name x px)) pos) (tS C (retS (vr i))) := by
  refine PS.imp (ps_ret (pe_var hN hv hd hcd)) fun D σ H ⟨e, s, o⟩ => ?_
  unfold retS vr at o
  split at o
  · rename_i d he
    obtain ⟨a, h1, h2⟩ := s.ow i d hi he
    refine ⟨.ref a, h1, ?_⟩
    exact o (.ref a) H s.se (h2.isD (fun b z => .inl z) (s.fresh0 hi hf h1)) fun z => by rw [hn] at z; cases z
  · exact o.elim
def retL (i : Nat) : MS := fun e => match e[i]? with
  | some (some (.lst ds)) => .ok (.rt (.lst ds), e)
  | _ => .bad
theorem js_retL {i : Nat} {x : Str} {px : Pos} (hi : i ∈ C.own) (hf : Free C i) (hN : X.N[i]? = some x) (hv : Vis X.env.scope x) (hd : (x == ("__debug__" : Str)) = false := by decide) (hcd : (x == ("__classdict__" : Str)) = false := by decide) : PS X (.Return (some (.Name x px)) pos) (tS C (retL i)) := by
  refine PS.imp (ps_ret (pe_var hN hv hd hcd)) fun D σ H ⟨e, s, o⟩ => ?_
  unfold retL at o
  split at o
  · rename_i ds he
    obtain ⟨a, h1, h2⟩ := s.ow i _ hi he
    refine ⟨.ref a, h1, ?_⟩
    refine o (.ref a) H s.se (h2.isD (fun b z => .inl z) (s.fresh0 hi hf h1)) fun _ => ?_
    have hne : ∀ b, C.par = some b → b ≠ a := fun b hb z => by
      rcases hf with hf | ⟨h0, hf⟩
      · rw [hf] at hb
        cases hb
      · exact hf (s.dist i 0 a hi h0 h1 (by rw [← z]; exact s.p0 b hb))
    have h0a : C.H0 a = none := (s.fr i a hi h1).elim id fun z => absurd rfl (hne a z)
    have hmo : MO C σ a := .inr ⟨i, hi, h1⟩
    obtain ⟨vs, h3, h4⟩ := h2
    exact ⟨ds, a, vs, rfl, rfl, h0a, h3, IsDs.era h3 (fun z => z) hmo (fun b z => .inl z) _ _ h4, fun b hb d0 he0 hz0 => by
      obtain ⟨b', h5, h6⟩ := s.ow 0 d0 hz0 he0
      rw [s.p0 b hb] at h5
      cases h5
      exact OwnD.era h3 (fun z => z) hmo (fun b z => .inl z) h6 (hne _ hb)⟩
  · exact o.elim
def ifS (t : MD Bool) (f g : MS) : MS := fun e => (t e).bind fun p => match p.1 with
  | true => f p.2
  | false => g p.2
theorem js_if {ba bb : List Stmt} {t : MD Bool} (hc : PT X c (tT C t)) (ha : PSs X ba (tS C f)) (hb : PSs X bb (tS C g)) : PS X (.If c ba bb pos) (tS C (ifS t f g)) := by
  refine PS.imp (ps_if hc ha hb) fun D σ H ⟨e, s, o⟩ => ⟨e, s, (Out.bind o).imp (fun p hp => ?_) fun _ _ z => z.xo⟩
  obtain ⟨d, e1⟩ := p
  intro H1 x1 s1
  cases d with
  | true => exact iteT ⟨e1, s1, OS.step hp (Stp.of x1)⟩
  | false => exact iteF ⟨e1, s1, OS.step hp (Stp.of x1)⟩

/-- from here on the list at i is data only -/
def Ct.frz (C : Ct) (i : Nat) : Ct := { C with own := C.own.filter (· != i) }
theorem frz_mem {i j : Nat} (h : j ∈ (C.frz i).own) : j ∈ C.own ∧ j ≠ i := by
  have h2 : j ∈ C.own.filter (· != i) := h
  rw [List.mem_filter] at h2
  exact ⟨h2.1, by simpa using h2.2⟩
theorem SR.frz {e : Lc} {σ : L2.St} {H : Hp} (s : SR C e σ H) {i : Nat} (hi : i ∈ C.own) (hf : Free C i) : SR (C.frz i) e σ H := by
  have mo : ∀ a, MO (C.frz i) σ a → MO C σ a := fun a z => z.imp id fun ⟨j, hj, y⟩ => ⟨j, (frz_mem hj).1, y⟩
  refine ⟨s.len, fun j d hj he => ?_, fun j d hj he => ?_, fun j k a hj hk => s.dist j k a (frz_mem hj).1 (frz_mem hk).1, fun j a hj => s.fr j a (frz_mem hj).1, s.ext, s.al, fun j a hj => s.nm j a (frz_mem hj).1, fun j a hj => s.alo j a (frz_mem hj).1, s.p0, s.pm⟩
  · by_cases hji : j = i
    · subst hji
      obtain ⟨a, h1, h2⟩ := s.ow j d hi he
      refine ⟨.ref a, h1, h2.isD mo fun z => ?_⟩
      rcases z with z | ⟨k, hk, y⟩
      · exact s.fresh0 hi hf h1 z
      · obtain ⟨k1, k2⟩ := frz_mem hk
        exact k2 (s.dist k j a k1 hi y h1)
    · have hjo : j ∉ C.own := fun z => hj (by
        show j ∈ C.own.filter (· != i)
        rw [List.mem_filter]
        exact ⟨z, by simpa using hji⟩)
      obtain ⟨v, h1, h2⟩ := s.val j d hjo he
      exact ⟨v, h1, h2.mono mo⟩
  · obtain ⟨a, h1, h2⟩ := s.ow j d (frz_mem hj).1 he
    exact ⟨a, h1, OwnD.step (Ext.refl _ _) (fun b z => .inl (mo b z)) h2 fun _ z => z⟩
def frzS (f : MS) : MS := fun e => match f e with
  | .ok (.rt d, e') => .ok (.rt d, e')
  | _ => .bad
theorem js_frz {i : Nat} (hi : i ∈ C.own) (hf : Free C i) (h : PSs X sts (tS (C.frz i) f)) : PSs X sts (tS C (frzS f)) := by
  refine PSs.imp h fun D σ H ⟨e, s, o⟩ => ⟨e, s.frz hi hf, ?_⟩
  unfold frzS at o
  have h0 : 0 ∈ (C.frz i).own → 0 ∈ C.own := fun z => (frz_mem z).1
  split at o
  · rename_i d e' he
    rw [he]
    intro v H' se iv nn
    refine o v H' ⟨se.ext, fun a ha d0 hd0 hz0 => se.own0 a ha d0 hd0 ?_⟩ iv fun z => ?_
    · show 0 ∈ C.own.filter (· != i)
      rw [List.mem_filter]
      refine ⟨hz0, ?_⟩
      rcases hf with hf | ⟨_, hf⟩
      · rw [hf] at ha
        cases ha
      · simpa using hf.symm
    · obtain ⟨ds, q, vs, h1, h2, h3, h4, h5, h6⟩ := nn z
      refine ⟨ds, q, vs, h1, h2, h3, h4, h5, fun a ha d0 hd0 hz0 => h6 a ha d0 hd0 ?_⟩
      show 0 ∈ C.own.filter (· != i)
      rw [List.mem_filter]
      refine ⟨hz0, ?_⟩
      rcases hf with hf | ⟨_, hf⟩
      · rw [hf] at ha
        cases ha
      · simpa using hf.symm
  · exact o.elim

/-! ### stores -/
theorem MO_set {σ : L2.St} {i : Nat} {x : Option V} (hi : i ∉ C.own) : MO C (σ.set i x) = MO C σ := by
  funext a
  refine propext ⟨fun h => ?_, fun h => ?_⟩
  · rcases h with h | ⟨j, hj, h⟩
    · exact .inl h
    · refine .inr ⟨j, hj, ?_⟩
      rw [List.getElem?_set_ne (fun z => hi (by rw [z]; exact hj))] at h
      exact h
  · rcases h with h | ⟨j, hj, h⟩
    · exact .inl h
    · refine .inr ⟨j, hj, ?_⟩
      rw [List.getElem?_set_ne (fun z => hi (by rw [z]; exact hj))]
      exact h
theorem OW_set {σ : L2.St} {i : Nat} {x : Option V} {a : Addr} (hi : i ∉ C.own) (h : OW C (σ.set i x) a) : OW C σ a := by
  obtain ⟨j, hj, h⟩ := h
  refine ⟨j, hj, ?_⟩
  rw [List.getElem?_set_ne (fun z => hi (by rw [z]; exact hj))] at h
  exact h
theorem get_set_own {σ : L2.St} {i j : Nat} {x : Option V} (hi : i ∉ C.own) (hj : j ∈ C.own) : (σ.set i x)[j]? = σ[j]? := List.getElem?_set_ne fun z => hi (by rw [z]; exact hj)
theorem Free.zero {i : Nat} (hf : Free C i) {σ : L2.St} {x : Option V} {a : Addr} (h : C.par = some a) (p : σ[0]? = some (some (.ref a))) : (σ.set i x)[0]? = some (some (.ref a)) := by
  rcases hf with hf | ⟨_, hf⟩
  · rw [hf] at h
    cases h
  · rw [List.getElem?_set_ne hf]
    exact p
/-- a plain name is stored -/
theorem SR.set {e : Lc} {σ : L2.St} {H : Hp} (s : SR C e σ H) {i : Nat} (hi : i ∉ C.own) (hf : Free C i) {d : D} {v : V} (iv : IsD C.k H (MO C σ) d v) : SR C (e.set i (some d)) (σ.set i (some v)) H := by
  have hm : MO C (σ.set i (some v)) = MO C σ := MO_set hi
  refine ⟨by rw [List.length_set, List.length_set]; exact s.len, fun j d' hj he => ?_, fun j d' hj he => ?_, fun j k a hj hk h1 h2 => ?_, fun j a hj h => ?_, s.ext, s.al, fun j a hj h => ?_, fun j a hj h => ?_, fun a h => hf.zero h (s.p0 a h), s.pm⟩
  · rw [hm]
    by_cases hji : i = j
    · subst hji
      have hl : i < e.length := by
        have := (List.getElem?_eq_some_iff.mp he).1
        rwa [List.length_set] at this
      rw [List.getElem?_set_self hl] at he
      cases he
      exact ⟨v, List.getElem?_set_self (by rw [← s.len]; exact hl), iv⟩
    · rw [List.getElem?_set_ne hji] at he ⊢
      exact s.val j d' hj he
  · rw [hm]
    have hji : i ≠ j := fun z => hi (by rw [z]; exact hj)
    rw [List.getElem?_set_ne hji] at he ⊢
    exact s.ow j d' hj he
  · rw [get_set_own hi hj] at h1
    rw [get_set_own hi hk] at h2
    exact s.dist j k a hj hk h1 h2
  · rw [get_set_own hi hj] at h
    exact s.fr j a hj h
  · rw [get_set_own hi hj] at h
    exact s.nm j a hj h
  · rw [get_set_own hi hj] at h
    exact s.alo j a hj h
theorem Stp.set {σ : L2.St} {H H' : Hp} {i : Nat} {x : Option V} (hi : i ∉ C.own) (h : Ext (OW C σ) H H') : Stp C σ H (σ.set i x) H' := ⟨h, fun a z => .inl (OW_set hi z)⟩
/-- a name of one's own gets a new list -/
theorem SR.setO {e : Lc} {σ : L2.St} {H : Hp} (s : SR C e σ H) {i : Nat} (hi : i ∈ C.own) (hf : Free C i) {p : Addr} {o : HO} {d : D} (hp : H p = none) (nr : OwnD C.k (upd H p o) (fun a => MO C σ a ∨ a = p) d p) :
    SR C (e.set i (some d)) (σ.set i (some (.ref p))) (upd H p o) ∧ Stp C σ H (σ.set i (some (.ref p))) (upd H p o) := by
  have hx : Ext (OW C σ) H (upd H p o) := Ext.upd hp
  have hm : ∀ a, MO C (σ.set i (some (.ref p))) a → MO C σ a ∨ a = p := fun a z => by
    rcases z with z | ⟨j, hj, z⟩
    · exact .inl (.inl z)
    · by_cases hji : i = j
      · subst hji
        have hl : i < σ.length := by
          have := (List.getElem?_eq_some_iff.mp z).1
          rwa [List.length_set] at this
        rw [List.getElem?_set_self hl] at z
        cases z
        exact .inr rfl
      · rw [List.getElem?_set_ne hji] at z
        exact .inl (.inr ⟨j, hj, z⟩)
  have hm2 : ∀ a, MO C (σ.set i (some (.ref p))) a → MO C σ a ∨ H a = none := fun a z => (hm a z).imp id fun z => by rw [z]; exact hp
  have hm3 : ∀ a, OW C (σ.set i (some (.ref p))) a → OW C σ a ∨ H a = none := fun a z => by
    obtain ⟨j, hj, z⟩ := z
    by_cases hji : i = j
    · subst hji
      have hl : i < σ.length := by
        have := (List.getElem?_eq_some_iff.mp z).1
        rwa [List.length_set] at this
      rw [List.getElem?_set_self hl] at z
      cases z
      exact .inr hp
    · rw [List.getElem?_set_ne hji] at z
      exact .inl ⟨j, hj, z⟩
  have kp : ∀ a u, H a = some u → upd H p o a = some u := fun a u q => by
    rw [upd_ne (ne_of_none q hp)]
    exact q
  have pH0 : C.H0 p = none := by
    cases q : C.H0 p with
    | none => rfl
    | some u =>
      by_cases hq : C.par = some p
      · obtain ⟨u', h'⟩ := s.pm p hq
        rw [hp] at h'
        cases h'
      · have := s.ext p u q (.inl hq)
        rw [hp] at this
        cases this
  refine ⟨⟨by rw [List.length_set, List.length_set]; exact s.len, fun j d' hj he => ?_, fun j d' hj he => ?_, fun j k a hj hk h1 h2 => ?_, fun j a hj h => ?_, fun a u q n => kp _ _ (s.ext a u q n), fun a h => (s.al a h).imp fun u q => kp _ _ q, fun j a hj h => ?_, fun j a hj h => ?_, fun a h => hf.zero h (s.p0 a h), fun a h => ?_⟩, ⟨hx, hm3⟩⟩
  · have hji : i ≠ j := fun z => hj (by rw [← z]; exact hi)
    rw [List.getElem?_set_ne hji] at he ⊢
    obtain ⟨v, h1, h2⟩ := s.val j d' hj he
    exact ⟨v, h1, IsD.step hx.mo hm2 _ _ h2⟩
  · by_cases hji : i = j
    · subst hji
      have hl : i < e.length := by
        have := (List.getElem?_eq_some_iff.mp he).1
        rwa [List.length_set] at this
      rw [List.getElem?_set_self hl] at he
      cases he
      exact ⟨p, List.getElem?_set_self (by rw [← s.len]; exact hl), OwnD.step (Ext.refl _ _) (fun a z => .inl (hm a z)) nr fun _ q => q⟩
    · rw [List.getElem?_set_ne hji] at he ⊢
      obtain ⟨a, h1, h2⟩ := s.ow j d' hj he
      exact ⟨a, h1, OwnD.step hx.mo hm2 h2 (kp a)⟩
  · have old : ∀ {j : Nat}, j ∈ C.own → i ≠ j → (σ.set i (some (.ref p)))[j]? = some (some (.ref a)) → a ≠ p := fun {j} hj hji h z => by
      rw [List.getElem?_set_ne hji] at h
      obtain ⟨u, hu⟩ := s.alo j a hj h
      rw [z, hp] at hu
      cases hu
    have atp : ∀ {j : Nat}, i = j → (σ.set i (some (.ref p)))[j]? = some (some (.ref a)) → a = p := fun {j} hji h => by
      subst hji
      have hl : i < σ.length := by
        have := (List.getElem?_eq_some_iff.mp h).1
        rwa [List.length_set] at this
      rw [List.getElem?_set_self hl] at h
      cases h
      rfl
    by_cases e1 : i = j <;> by_cases e2 : i = k
    · exact e1.symm.trans e2
    · exact absurd (atp e1 h1) (old hk e2 h2)
    · exact absurd (atp e2 h2) (old hj e1 h1)
    · rw [List.getElem?_set_ne e1] at h1
      rw [List.getElem?_set_ne e2] at h2
      exact s.dist j k a hj hk h1 h2
  · by_cases hji : i = j
    · subst hji
      have hl : i < σ.length := by
        have := (List.getElem?_eq_some_iff.mp h).1
        rwa [List.length_set] at this
      rw [List.getElem?_set_self hl] at h
      cases h
      exact .inl pH0
    · rw [List.getElem?_set_ne hji] at h
      exact s.fr j a hj h
  · by_cases hji : i = j
    · subst hji
      have hl : i < σ.length := by
        have := (List.getElem?_eq_some_iff.mp h).1
        rwa [List.length_set] at this
      rw [List.getElem?_set_self hl] at h
      cases h
      refine .inl fun z => ?_
      obtain ⟨u, hu⟩ := s.al p z
      rw [hp] at hu
      cases hu
    · rw [List.getElem?_set_ne hji] at h
      exact s.nm j a hj h
  · by_cases hji : i = j
    · subst hji
      have hl : i < σ.length := by
        have := (List.getElem?_eq_some_iff.mp h).1
        rwa [List.length_set] at this
      rw [List.getElem?_set_self hl] at h
      cases h
      exact ⟨o, upd_same⟩
    · rw [List.getElem?_set_ne hji] at h
      obtain ⟨u, hu⟩ := s.alo j a hj h
      exact ⟨u, kp a u hu⟩
  · obtain ⟨u, hu⟩ := s.pm a h
    exact ⟨u, kp a u hu⟩
/-- a list or dict of one's own is changed -/
theorem SR.write {e : Lc} {σ : L2.St} {H : Hp} (s : SR C e σ H) {i : Nat} (hi : i ∈ C.own) {a : Addr} (ha : σ[i]? = some (some (.ref a))) {o o' : HO} (hH : H a = some o) (hx : ¬ Fx o) {d : D} (od : OwnD C.k (upd H a o') (MO C σ) d a) :
    SR C (e.set i (some d)) σ (upd H a o') ∧ Ext (OW C σ) H (upd H a o') := by
  have hma : OW C σ a := ⟨i, hi, ha⟩
  have x : Ext (OW C σ) H (upd H a o') := fun b u q n => by
    have hb : b ≠ a := fun z => by
      subst z
      rcases n with n | n
      · exact n hma
      · rw [hH] at q
        cases q
        exact hx n
    rw [upd_ne hb]
    exact q
  have kp : ∀ b u, H b = some u → ∃ u', upd H a o' b = some u' := fun b u q => by
    by_cases hb : b = a
    · subst hb
      exact ⟨_, upd_same⟩
    · exact ⟨u, by rw [upd_ne hb]; exact q⟩
  have kn : ∀ b u, b ≠ a → H b = some u → upd H a o' b = some u := fun b u hb q => by rw [upd_ne hb]; exact q
  refine ⟨⟨by rw [List.length_set]; exact s.len, fun j d' hj he => ?_, fun j d' hj he => ?_, s.dist, s.fr, fun b u q n => ?_, fun b h => (s.al b h).elim fun u q => kp b u q, s.nm, fun j b hj h => ?_, s.p0, fun b h => ?_⟩, x⟩
  · have hji : i ≠ j := fun z => hj (by rw [← z]; exact hi)
    rw [List.getElem?_set_ne hji] at he
    obtain ⟨v, h1, h2⟩ := s.val j d' hj he
    exact ⟨v, h1, IsD.step x.mo (fun _ z => .inl z) _ _ h2⟩
  · by_cases hji : i = j
    · subst hji
      have hl : i < e.length := by
        have := (List.getElem?_eq_some_iff.mp he).1
        rwa [List.length_set] at this
      rw [List.getElem?_set_self hl] at he
      cases he
      exact ⟨a, ha, od⟩
    · rw [List.getElem?_set_ne hji] at he
      obtain ⟨b, h1, h2⟩ := s.ow j d' hj he
      have hb : b ≠ a := fun z => hji (s.dist i j a hi hj ha (by rw [← z]; exact h1))
      exact ⟨b, h1, OwnD.step x.mo (fun _ z => .inl z) h2 fun u q => kn b u hb q⟩
  · refine kn b u ?_ (s.ext b u q n)
    intro z
    subst z
    have h1 := s.ext b u q n
    rw [hH] at h1
    cases h1
    rcases n with n | n
    · rcases s.fr i b hi ha with f | f
      · rw [f] at q
        cases q
      · exact n f
    · exact hx n
  · obtain ⟨u, hu⟩ := s.alo j b hj h
    exact kp b u hu
  · obtain ⟨u, hu⟩ := s.pm b h
    exact kp b u hu
end
end Dn

namespace Dn
open PySem PySem.Spec PyProof.Rows L2

/-! ### targets -/
abbrev GD := D → Lc → R Lc
def POg (C : Ct) (σ : L2.St) (H : Hp) (Q : L2.St → Hp → Prop) : Lc → Prop := fun e' => ∀ σ' H', Stp C σ H σ' H' → SR C e' σ' H' → Q σ' H'
def tG (C : Ct) (g : GD) : TG := fun v σ H Q => ∃ e d, SR C e σ H ∧ IsD C.k H (MO C σ) d v ∧ Out (POg C σ H Q) (fun _ _ => False) (g d e)
def tGs (C : Ct) (g : List D → Lc → R Lc) : TGs := fun vs σ H Q => ∃ e ds, SR C e σ H ∧ IsDs C.k H (MO C σ) ds vs ∧ Out (POg C σ H Q) (fun _ _ => False) (g ds e)
def nmG (i : Nat) : GD := fun d e => .ok (e.set i (some d))
def nilG : List D → Lc → R Lc := fun ds e => match ds with
  | [] => .ok e
  | _ => .bad
def consG (g : GD) (h : List D → Lc → R Lc) : List D → Lc → R Lc := fun ds e => match ds with
  | d :: r => (g d e).bind fun e' => h r e'
  | [] => .bad
def tupG (n : Nat) (h : List D → Lc → R Lc) : GD := fun d e => match d with
  | .tup ds => if ds.length = n then h ds e else .bad
  | .lst ds => if ds.length = n then h ds e else .bad
  | _ => .bad
section
variable {X : Cx} {C : Ct} {pos : Pos}
theorem PG.imp {a : Expr} {t t' : TG} (h : PG X a t) (i : ∀ v σ H Q, t' v σ H Q → t v σ H Q) : PG X a t' := ⟨fun pins s σ H v u Q I r hw => h.run pins s σ H v u Q I r (i v σ H Q hw)⟩
theorem PGs.imp {a : List Expr} {t t' : TGs} (h : PGs X a t) (i : ∀ v σ H Q, t' v σ H Q → t v σ H Q) : PGs X a t' := ⟨fun pins s σ H v u Q I r hw => h.run pins s σ H v u Q I r (i v σ H Q hw)⟩
theorem PG.or {a : Expr} {t t' : TG} (h : PG X a t) (h' : PG X a t') : PG X a (fun v σ H Q => t v σ H Q ∨ t' v σ H Q) := ⟨fun pins s σ H v u Q I r hw => hw.elim (h.run pins s σ H v u Q I r) (h'.run pins s σ H v u Q I r)⟩
theorem jg_name {i : Nat} {x : Str} (ho : i ∉ C.own) (hf : Free C i) (hN : X.N.Nodup) (hi : X.N[i]? = some x) (hx : Loc X.env.scope x) (hfn : X.fn x = true ∨ X.env.scope.names.lookup x = some .local) : PG X (.Name x pos) (tG C (nmG i)) := by
  refine PG.imp (pg_name hN hi hx hfn) fun v σ H Q ⟨e, d, s, iv, o⟩ => ?_
  exact o _ _ (Stp.set ho (Ext.refl _ _)) (s.set ho hf iv)
theorem jgs_nil : PGs X [] (tGs C nilG) := by
  refine PGs.imp pgs_nil fun v σ H Q ⟨e, ds, s, iv, o⟩ => ?_
  cases ds with
  | nil => exact ⟨iv, o σ H Stp.refl s⟩
  | cons d r => exact o.elim
theorem jgs_cons {a : Expr} {es : List Expr} {g : GD} {h : List D → Lc → R Lc} (h1 : PG X a (tG C g)) (h2 : PGs X es (tGs C h)) (hs : (assignEach (a :: es) X.env).map (·.2) = assign a X.env :: (assignEach es X.env).map (·.2) := by rfl) : PGs X (a :: es) (tGs C (consG g h)) := by
  refine PGs.imp (pgs_cons h1 h2 hs) fun v σ H Q ⟨e, ds, s, iv, o⟩ => ?_
  cases ds with
  | nil => exact o.elim
  | cons d r =>
    obtain ⟨v1, vr, e1, i1, i2⟩ := iv
    refine ⟨v1, vr, e1, e, d, s, i1, (Out.bind o).imp (fun e' he => ?_) fun _ _ z => z⟩
    intro σ1 H1 x1 s1
    exact ⟨e', r, s1, x1.isDs i2, he.imp (fun e2 h3 σ2 H2 x2 s2 => h3 σ2 H2 (x1.trans x2) s2) fun _ _ z => z⟩
theorem jg_tup {es : List Expr} {kk : Nat} {h : List D → Lc → R Lc} {n : Nat} (hK : C.k.K = X.K) (hc : X.calm = true) (hg : PGs X es (tGs C h)) (hn : (assignEach es X.env).length = n := by rfl) (hst : (assignEach es X.env).findIdx? (·.1) = none := by rfl) : PG X (.Tuple es kk pos) (tG C (tupG n h)) := by
  refine PG.imp (PG.or (pg_tup hc hg hn hst) (pg_lst hc hg hn hst)) fun v σ H Q ⟨e, d, s, iv, o⟩ => ?_
  rw [← hK]
  unfold tupG at o
  split at o
  · split at o
    · rename_i ds hl
      obtain ⟨a, vs, rfl, h1, h2⟩ := iv
      exact .inl ⟨a, vs, rfl, h1, h2.length.trans hl, e, ds, s, h2, o⟩
    · exact o.elim
  · split at o
    · rename_i ds hl
      obtain ⟨a, vs, rfl, h1, _, h2⟩ := iv
      exact .inr ⟨a, vs, rfl, .inl (.inl h1), h2.length.trans hl, e, ds, s, h2, o⟩
    · exact o.elim
  · exact o.elim
/-- target = value -/
def asgS (f : MD D) (g : GD) : MS := fun e => (f e).bind fun p => (g p.1 p.2).bind fun e' => .ok (.nx, e')
theorem js_asg {tg a : Expr} {f : MD D} {g : GD} (he : PE X a (tE C f)) (hg : PG X tg (tG C g)) (nx : ∀ d e y l, g d e ≠ .exc y l) (hs : swapsWithSole [tg] a pos.line X.env = pure false := by rfl) (hw : swappedStores [tg] a X.env = pure none := by rfl)
    (h1 : (assignEach [tg] X.env).map (·.2) = [assign tg X.env] := by rfl) : PS X (.Assign [tg] a pos) (tS C (asgS f g)) := by
  refine PS.imp (ps_asg he hg hs hw h1) fun D σ H ⟨e, s, o⟩ => ⟨e, s, (Out.bind o).imp (fun p hp => ?_) fun _ _ z => z.xo⟩
  intro v H1 x1 s1 i1
  refine ⟨p.2, p.1, s1, i1, ?_⟩
  cases e0 : g p.1 p.2 with
  | ok e' =>
    rw [e0] at hp
    intro σ2 H2 x2 s2
    exact hp σ2 H2 ((Stp.of x1).trans x2) s2
  | exc y l => exact absurd e0 (nx _ _ _ _)
  | bad =>
    rw [e0] at hp
    exact hp.elim
/-- name = value -/
def setS (i : Nat) (f : MD D) : MS := fun e => (f e).bind fun p => .ok (.nx, p.2.set i (some p.1))
theorem js_set {i : Nat} {x : Str} {a : Expr} {px : Pos} {f : MD D} (ho : i ∉ C.own) (hf : Free C i) (hN : X.N.Nodup) (hi : X.N[i]? = some x) (hx : Loc X.env.scope x) (hfn : X.fn x = true ∨ X.env.scope.names.lookup x = some .local) (he : PE X a (tE C f)) (hs : swapsWith a (some (.Name x px)) pos.line X.env = pure false := by rfl) :
    PS X (.Assign [.Name x px] a pos) (tS C (setS i f)) := by
  refine PS.imp (ps_set hN hi hx he hs hfn) fun D σ H ⟨e, s, o⟩ => ⟨e, s, (Out.bind o).imp (fun p hp => ?_) fun _ _ z => z.xo⟩
  intro v H1 x1 s1 i1
  exact hp _ _ (Stp.set ho x1) (s1.set ho hf i1)

/-! ### expressions that make a new list -/
def PF (C : Ct) (σ : L2.St) (H : Hp) (Q : VK) : List D × Lc → Prop := fun p => ∀ vs H' q, Ext (OW C σ) H H' → SR C p.2 σ H' → IsDs C.k H' (MO C σ) p.1 vs → H' q = none → Q (.ref q) (upd H' q (.lst vs))
def tF (C : Ct) (f : MD (List D)) : TE := fun σ H Q => ∃ e, SR C e σ H ∧ Out (PF C σ H Q) (XO C σ H) (f e)
def asL (f : MD (List D)) : MD D := fun e => (f e).bind fun p => .ok (.lst p.1, p.2)
theorem je_of {a : Expr} {f : MD (List D)} (h : PE X a (tF C f)) : PE X a (tE C (asL f)) := by
  refine PE.imp h fun σ H Q ⟨e, s, o⟩ => ⟨e, s, (Out.bind o).imp (fun p hp => ?_) fun _ _ z => z⟩
  intro vs H1 q x1 s1 i1 hq
  exact hp (.ref q) _ (x1.trans (Ext.upd hq)) (s1.grow hq) (IsD.newL s1 hq i1)
def szA (f : MD (List D)) : MD (List D) := fun e => (f e).bind fun p => if p.1.length ≤ sizeLine then .ok p else .bad
theorem jf_lst {es : List Expr} {fa : MD (List D)} (h : PA X es (tA C fa)) : PE X (.List es pos) (tF C (szA fa)) := by
  refine PE.imp (pe_lst h) fun σ H Q ⟨e, s, o⟩ => ⟨e, s, (Out.bind o).imp (fun p hp => ?_) fun _ _ z => z⟩
  intro vs H1 x1 s1 i1
  by_cases hz : p.1.length ≤ sizeLine
  · rw [if_pos hz] at hp
    have hz' : vs.length ≤ sizeLine := by rw [i1.length]; exact hz
    exact ⟨hz', fun q hq => hp vs H1 q x1 s1 i1 hq⟩
  · rw [if_neg hz] at hp
    exact hp.elim
/-- name = a new list, the name one's own -/
def setO (i : Nat) (f : MD (List D)) : MS := fun e => (f e).bind fun p => .ok (.nx, p.2.set i (some (.lst p.1)))
theorem OwnD.new {σ : L2.St} {e : Lc} {H : Hp} {p : Addr} {ds : List D} {vs : List V} (s : SR C e σ H) (hp : H p = none) (i : IsDs C.k H (MO C σ) ds vs) : OwnD C.k (upd H p (.lst vs)) (fun a => MO C σ a ∨ a = p) (.lst ds) p :=
  ⟨vs, upd_same, IsDs.step (Ext.upd hp) (fun a z => z.imp id fun z => by rw [z]; exact hp) _ _ i⟩
theorem js_setO {i : Nat} {x : Str} {a : Expr} {px : Pos} {f : MD (List D)} (ho : i ∈ C.own) (hf : Free C i) (hN : X.N.Nodup) (hi : X.N[i]? = some x) (hx : Loc X.env.scope x) (hfn : X.fn x = true ∨ X.env.scope.names.lookup x = some .local) (he : PE X a (tF C f)) (hs : swapsWith a (some (.Name x px)) pos.line X.env = pure false := by rfl) :
    PS X (.Assign [.Name x px] a pos) (tS C (setO i f)) := by
  refine PS.imp (ps_set hN hi hx he hs hfn) fun D σ H ⟨e, s, o⟩ => ⟨e, s, (Out.bind o).imp (fun p hp => ?_) fun _ _ z => z.xo⟩
  intro vs H1 q x1 s1 i1 hq
  obtain ⟨s2, x2⟩ := s1.setO ho hf hq (OwnD.new s1 hq i1)
  exact hp _ _ ((Stp.of x1).trans x2) s2

/-- return of a new list -/
def retF (f : MD (List D)) : MS := fun e => (f e).bind fun p => .ok (.rt (.lst p.1), p.2)
theorem js_retF {a : Expr} {f : MD (List D)} (he : PE X a (tF C f)) : PS X (.Return (some a) pos) (tS C (retF f)) := by
  refine PS.imp (ps_ret he) fun D σ H ⟨e, s, o⟩ => ⟨e, s, (Out.bind o).imp (fun p hp => ?_) fun _ _ z => z.xo⟩
  intro vs H1 q x1 s1 i1 hq
  have s2 : SR C p.2 σ (upd H1 q (.lst vs)) := s1.grow hq
  have nq : ∀ o, C.H0 q = some o → False := fun o z => by
    by_cases hp : C.par = some q
    · obtain ⟨o', h'⟩ := s1.pm q hp
      rw [hq] at h'
      cases h'
    · have := s1.ext q o z (.inl hp)
      rw [hq] at this
      cases this
  have n0 : C.H0 q = none := by
    cases z : C.H0 q with
    | none => rfl
    | some o => exact (nq o z).elim
  refine hp (.ref q) _ s2.se ((IsD.newL s1 hq i1).mono fun _ z => .inl z) fun _ => ?_
  refine ⟨p.1, q, vs, rfl, rfl, n0, upd_same, by rw [era_new hq]; exact i1.mono fun _ z => .inl z, fun b hb d0 he0 hz0 => ?_⟩
  rw [era_new hq]
  obtain ⟨b', h5, h6⟩ := s1.ow 0 d0 hz0 he0
  rw [s1.p0 b hb] at h5
  cases h5
  exact OwnD.step (Ext.refl _ _) (fun b z => .inl (.inl z)) h6 fun _ z => z

/-! ### a list of one's own, read and changed -/
/-- what a list of one's own is for: read at its slot, the list as it stands -/
def PRd (C : Ct) (i : Nat) (t : TE) : Prop := ∀ e σ H Q, SR C e σ H → (∀ a d, e[i]? = some (some d) → σ[i]? = some (some (.ref a)) → OwnD C.k H (MO C σ) d a → Q (.ref a) H) → t σ H Q
/-- x.append(e) -/
def appS (i : Nat) (f : MD D) : MS := fun e => (f e).bind fun p => match p.2[i]? with
  | some (some (.lst ds)) => if ds.length < sizeLine then .ok (.nx, p.2.set i (some (.lst (ds ++ [p.1])))) else .bad
  | _ => .bad
/-- before anything is reckoned the slot holds a list -/
def isL (i : Nat) (f : MS) : MS := fun e => match e[i]? with
  | some (some (.lst _)) => f e
  | _ => .bad
theorem own_lst {e : Lc} {σ : L2.St} {H : Hp} {i : Nat} {ds : List D} (s : SR C e σ H) (hi : i ∈ C.own) (he : e[i]? = some (some (.lst ds))) : ∃ a vs, σ[i]? = some (some (.ref a)) ∧ H a = some (.lst vs) ∧ IsDs C.k H (MO C σ) ds vs := by
  obtain ⟨a, h1, vs, h2, h3⟩ := s.ow i _ hi he
  exact ⟨a, vs, h1, h2, h3⟩
theorem SR.wlst {e : Lc} {σ : L2.St} {H : Hp} (s : SR C e σ H) {i : Nat} (hi : i ∈ C.own) {a : Addr} {vs ws : List V} {es : List D} (ha : σ[i]? = some (some (.ref a))) (hH : H a = some (.lst vs)) (h : IsDs C.k H (MO C σ) es ws) :
    SR C (e.set i (some (.lst es))) σ (upd H a (.lst ws)) ∧ Ext (OW C σ) H (upd H a (.lst ws)) := by
  have hma : OW C σ a := ⟨i, hi, ha⟩
  have x : Ext (OW C σ) H (upd H a (.lst ws)) := fun b u q n => by
    have hb : b ≠ a := fun z => by
      subst z
      rcases n with n | n
      · exact n hma
      · rw [hH] at q
        cases q
        exact n
    rw [upd_ne hb]
    exact q
  exact s.write hi ha hH (fun z => z) ⟨ws, upd_same, IsDs.step x.mo (fun _ z => .inl z) _ _ h⟩
theorem js_app {i : Nat} {x : Str} {a : Expr} {px ap cp : Pos} {f : MD D} (hK : C.k.K = X.K) (ho : i ∈ C.own) (hN : X.N[i]? = some x) (hv : Vis X.env.scope x) (he : PE X a (tE C f)) (hd : (x == ("__debug__" : Str)) = false := by decide) (hcd : (x == ("__classdict__" : Str)) = false := by decide)
    (hbase : attributeBase (.Name x px) "append" X.env (eval (.Name x px) X.env) = eval (.Name x px) X.env := by rfl)
    (hfew : ((backTo cp (starEach [a] X.env)).all (fun x => !x.1) && (backToKw cp (keywordEach [] X.env)).all (fun x => x.1.isSome)
      && decide ([a].length + ([] : List Keyword).length + (if ([] : List Keyword).isEmpty then 0 else 1) < 30)) = true := by rfl)
    (hline : (ap.endLine == cp.line) = true := by rfl) (hs : starEach [a] X.env = (false, eval a X.env) :: starEach [] X.env := by rfl) (hplain : (backTo cp (starEach [] X.env)).any (·.1) = false := by rfl)
    (hsw : swapsWith (.Call (.Attribute (.Name x px) "append" ap) [a] [] cp) none pos.line X.env = pure false := by rfl) :
    PS X (.Expr (.Call (.Attribute (.Name x px) "append" ap) [a] [] cp) pos) (tS C (isL i (appS i f))) := by
  refine PS.imp (ps_expr (pe_bm PySem.F.plainAttrs_list PySem.F.slot_list_append PySem.F.type_list_append mt_append (pe_var hN hv hd hcd) (pa_cons he pa_nil hs) hbase hfew hline hs hplain) hsw) fun D σ H ⟨e, s, o⟩ => ?_
  unfold isL at o
  split at o
  · rename_i ds0 h0
    obtain ⟨b, vs, h1, h2, h3⟩ := own_lst s ho h0
    refine ⟨.ref b, h1, .inl ⟨rfl, vs, .inl (.inl h2)⟩, e, s, (Out.bind o).imp (fun p hp => ?_) fun _ _ z => z.xo⟩
    intro v H1 x1 s1 i1
    split at hp
    · rename_i ds hds
      split at hp
      · rename_i hz
        obtain ⟨b', ws, h4, h5, h6⟩ := own_lst s1 ho hds
        have eb : b' = b := by
          rw [h1] at h4
          cases h4
          rfl
        subst eb
        obtain ⟨s2, x2⟩ := s1.wlst ho h1 h5 (h6.app (.cons i1 .nil))
        exact ⟨b', ws, v, rfl, rfl, h5, by rw [h6.length]; exact hz, hp σ _ (Stp.of (x1.trans x2)) s2⟩
      · exact hp.elim
    · exact hp.elim
  · exact o.elim
/-- x[k] = e, the list one's own: e first, then k -/
def subG (i : Nat) (f : MD D) : GD := fun d e => (f e).bind fun p => match p.1, p.2[i]? with
  | .int k, some (some (.lst ds)) => match ixN ds.length k with
    | some j => .ok (p.2.set i (some (.lst (ds.set j d))))
    | none => .bad
  | _, _ => .bad
def isLG (i : Nat) (g : GD) : GD := fun d e => match e[i]? with
  | some (some (.lst _)) => g d e
  | _ => .bad
theorem jg_sub {i : Nat} {x : Str} {a : Expr} {px : Pos} {f : MD D} (ho : i ∈ C.own) (hN : X.N[i]? = some x) (hv : Vis X.env.scope x) (he : PE X a (tE C f)) (hd : (x == ("__debug__" : Str)) = false := by decide) (hcd : (x == ("__classdict__" : Str)) = false := by decide)
    (ha : ∀ v, assign (.Subscript (.Name x px) a pos) X.env v = (do
      let ov ← holding [v] (eval (.Name x px) X.env)
      let iv ← holding [v, ov] (eval a X.env)
      standAt pos
      holding [v, ov, iv] (setItem ov iv v)
      release [v, ov, iv] []) := by intro _; rfl) : PG X (.Subscript (.Name x px) a pos) (tG C (isLG i (subG i f))) := by
  refine PG.imp (pg_sub (pe_var hN hv hd hcd) he set_list ha) fun v σ H Q ⟨e, d, s, iv, o⟩ => ?_
  unfold isLG at o
  split at o
  · rename_i ds0 h0
    obtain ⟨b, vs, h1, h2, h3⟩ := own_lst s ho h0
    refine ⟨.ref b, h1, e, s, (Out.bind o).imp (fun p hp => ?_) fun _ _ z => z.elim⟩
    intro w H1 x1 s1 i1
    obtain ⟨k, e1⟩ := p
    cases k with
    | int k =>
      cases i1
      dsimp only at hp s1
      split at hp
      · rename_i kk ds hk hds
        cases hk
        split at hp
        · rename_i j hj
          obtain ⟨b', ws, h4, h5, h6⟩ := own_lst s1 ho hds
          have eb : b' = b := by
            rw [h1] at h4
            cases h4
            rfl
          subst eb
          obtain ⟨s2, x2⟩ := s1.wlst ho h1 h5 (h6.set ((Stp.of x1).isD iv) j)
          exact ⟨b', ws, k, j, rfl, rfl, h5, by rw [h6.length]; exact hj, hp σ _ (Stp.of (x1.trans x2)) s2⟩
        · exact hp.elim
      · exact hp.elim
    | _ => exact hp.elim
  · exact o.elim
/-- x[j], x one's own -/
def oix (i : Nat) (f : MD D) : MD D := fun e => match e[i]? with
  | some (some (.lst _)) => (f e).bind fun p => match p.2[i]? with
    | some (some (.lst ds)) => (idxD (.lst ds) p.1).at p.2
    | _ => .bad
  | _ => .bad
theorem je_oix {i : Nat} {x : Str} {a : Expr} {px : Pos} {f : MD D} (hK : C.k.K = X.K) (ho : i ∈ C.own) (hN : X.N[i]? = some x) (hv : Vis X.env.scope x) (hs : PlainIx a) (he : PE X a (tE C f)) (hd : (x == ("__debug__" : Str)) = false := by decide) (hcd : (x == ("__classdict__" : Str)) = false := by decide) :
    PE X (.Subscript (.Name x px) a pos) (tE C (oix i f)) := by
  refine PE.imp (pe_ix ix_list (pe_var hN hv hd hcd) he hs) fun σ H Q ⟨e, s, o⟩ => ?_
  unfold oix at o
  split at o
  · rename_i ds0 h0
    obtain ⟨b, vs, h1, h2, h3⟩ := own_lst s ho h0
    refine ⟨.ref b, h1, e, s, (Out.bind o).imp (fun p hp => ?_) fun _ _ z => z⟩
    intro w H1 x1 s1 i1
    split at hp
    · rename_i ds hds
      obtain ⟨b', ws, h4, h5, h6⟩ := own_lst s1 ho hds
      have eb : b' = b := by
        rw [h1] at h4
        cases h4
        rfl
      subst eb
      obtain ⟨k, e1⟩ := p
      cases k with
      | int k =>
        cases i1
        unfold idxD at hp
        dsimp only at hp
        split at hp
        · rename_i d hdd
          obtain ⟨v, h7, h8⟩ := h6.atI hdd
          exact ⟨b', ws, k, v, rfl, rfl, .inl (.inl h5), h7, hp v H1 x1 s1 h8⟩
        · exact hp.elim
      | _ => exact hp.elim
    · exact hp.elim
  · exact o.elim
/-- len(x), x one's own -/
def olen (i : Nat) : MD D := fun e => match e[i]? with
  | some (some (.lst ds)) => .ok (.int ds.length, e)
  | some (some (.dct ks _)) => .ok (.int ks.length, e)
  | _ => .bad
theorem je_olen {i : Nat} {x y : Str} {px p : Pos} (ho : i ∈ C.own) (hN : X.N[i]? = some x) (hv : Vis X.env.scope x) (hg : Gl X "len") (hm : X.mg "len" = none) (hd : (x == ("__debug__" : Str)) = false := by decide) (hcd : (x == ("__classdict__" : Str)) = false := by decide)
    (he : starEach [(.Name x px : Expr)] X.env = (false, eval (.Name x px) X.env) :: starEach [] X.env := by rfl) (hpl : (backTo pos (starEach [] X.env)).any (·.1) = false := by rfl) :
    PE X (.Call (.Name "len" p) [.Name x px] [] pos) (tE C (olen i)) := by
  refine PE.imp (pe_callB call_lenX hg hm PySem.boot_len (pa_cons (pe_var hN hv hd hcd) pa_nil he) (by decide) (by decide) he hpl) fun σ H Q ⟨e, s, o⟩ => ?_
  unfold olen at o
  split at o
  · rename_i ds h0
    obtain ⟨b, vs, h1, h2, h3⟩ := own_lst s ho h0
    refine ⟨.ref b, h1, .inl ⟨_, _, rfl, .inl ⟨vs, .inl (.inl h2), h3.length.symm⟩, o _ H (Ext.refl _ _) s rfl⟩⟩
  · rename_i ks ds h0
    obtain ⟨b, h1, kvs, h2, h3, h4⟩ := s.ow i _ ho h0
    refine ⟨.ref b, h1, .inr ⟨b, kvs, rfl, h2, ?_⟩⟩
    have o' : OE C σ H Q (.ok (.int ks.length, e)) := o
    rw [← h3, List.length_map] at o'
    exact o' _ H (Ext.refl _ _) s rfl
  · exact o.elim
/-- a copy of a list of one's own: list(x), x[a:b], tuple(x), x + ..: read as data at once, the list itself let go -/
def ovr (i : Nat) : MD D := fun e => match e[i]? with
  | some (some (.lst ds)) => .ok (.lst ds, e)
  | _ => .bad
end
end Dn

/-! enumerate(tuple) -/
namespace Dn
open PySem PySem.Spec PyProof.Rows L2

theorem enumNew {v : Value} {o : Obj} {Hq : Heap → Prop} (B : Begins v o Hq) :
    Meets (Builtin.«enumerate.__new__» ⟨[.type "enumerate", v], []⟩) (fun _ Rr s => Hq s.heap ∧
      Rr (.ok (.ret (.ref (s.heap.push o).objs.size))) { s with heap := (s.heap.push o).push { cls := .type "enumerate", data := .fields #[.none, .bool false, .ref s.heap.objs.size, rawInt 0, .none, .none] } }) :=
  .of_wp fun prog w A Rr s hh => by
    obtain ⟨hp, gg, dd, tt, oo⟩ := s
    obtain ⟨hb, hr⟩ := hh
    have hsub := sub_enumerate
    have itq : ∀ {A' : Around} {E' : Value → Shared → Prop} {Q' : Value → Shared → Prop}, Q' (.ref hp.objs.size) ⟨hp.push o, gg, dd, tt, oo⟩ → wpAny (model prog w) A' (pyIter v) Q' E' ⟨hp, gg, dd, tt, oo⟩ :=
      fun z => B.iter prog w _ _ ⟨hp, gg, dd, tt, oo⟩ _ hb z
    wp_walk using itq
    refine wpAny_stack_any fun st => wpAny_pure ?_
    split
    · rename_i cc _ _ _ _ _
      cases (cc == Value.type "enumerate") <;> (wp_walk using itq; exact ⟨_, rfl, hr⟩)
    · wp_walk using itq
      exact ⟨_, rfl, hr⟩
section
variable {prog : Program} {w : World} {A : Around} {E : Value → Shared → Prop} {s : Shared}
theorem callEnumT {t : Addr} {items : Array Value} {Q : Value → Shared → Prop} (hT : s.heap.IsTuple t items)
    (k : ∀ h2, IsEnum h2 (s.heap.objs.size + 1) s.heap.objs.size 0 .none → h2.IsTupleIter s.heap.objs.size t 0 → (∀ b o, s.heap.get? b = some o → h2.get? b = some o) → Q (.ref (s.heap.objs.size + 1)) { s with heap := h2 }) :
    wpAny (model prog w) A (call (.type "enumerate") [.ref t]) Q E s := by
  refine callType_new F.called_enumerate (by decide) (F.typeCall_enumerate_1 _) (F.newCall_enumerate_1 _) (fun ob => F.args_object_init_2 ob _) F.entry_enumerate_new (enumNew (begins_tuple t items)) ⟨hT, ?_⟩
  generalize ho : ({ cls := .type "tuple_iterator", data := .fields #[.ref t, .int 0 0] } : Obj) = o
  have hz : (s.heap.push o).objs.size = s.heap.objs.size + 1 := Heap.size_push ..
  have fo : o.isFreed = false := by
    rw [← ho]
    rfl
  have g1 : (s.heap.push o).get? s.heap.objs.size = some o := Heap.get?_push_size _ fo
  generalize he : ({ cls := .type "enumerate", data := .fields #[.none, .bool false, .ref s.heap.objs.size, rawInt 0, .none, .none] } : Obj) = oe
  have g2 : ((s.heap.push o).push oe).get? (s.heap.push o).objs.size = some oe := Heap.get?_push_size _ (by
    rw [← he]
    rfl)
  rw [hz] at g2
  rw [hz]
  refine ⟨⟨_, g2, ?_⟩, k _ ?_ ⟨o, Heap.get?_push_of_some _ g1, ?_, ?_⟩ fun b u q => Heap.get?_push_of_some _ (Heap.get?_push_of_some _ q)⟩
  · rw [← he]
  · show ((s.heap.push o).push oe).get? (s.heap.objs.size + 1) = _
    rw [g2, ← he]
  · rw [← ho]
  · rw [← ho]
    rfl
end
section
variable {prog : Program} {w : World} {A : Around} {E : Value → Shared → Prop} {s : Shared}
theorem endEnumT {e it t : Addr} {i : Nat} {items : Array Value} {old : Value} {Q : Option Value → Shared → Prop} (hh : A.handled = none) (he : IsEnum s.heap e it ((i : Nat) : Int) old) (hit : s.heap.IsTupleIter it t i) (ht : s.heap.IsTuple t items) (hx : items[i]? = none)
    (hQ : ∀ h2, Heap.ExtBut it s.heap h2 → Q none { s with heap := h2 }) : wpAny (model prog w) A (pyNext (.ref e)) Q E s := by
  have hT : s.TypeIs (.ref e) "enumerate" := ⟨_, he, rfl⟩
  unfold pyNext
  refine wpAny_bind (wpAny_attempt (wpAny_callSpecial?_slot (name := Str.ofString "__next__") hT F.slot_enumerate_next
    (wpAny_call_entry F.slot_enumerate_next hT F.entry_enumerate_next ?_ (F.args_enumerate_next_1 _))))
  show wpAny _ _ (field (Value.ref e) 2 >>= _) _ _ s
  refine wpAny_bind (wpAny_field he rfl (x := .ref it) rfl ?_)
  refine wpAny_bind (wpAny_nextOf_tuple_end (by exact hh) hit ht hx fun h2 x eb hx2 => ?_)
  obtain ⟨o, ho, hc⟩ := hx2
  exact wpAny_bind (wpAny_isInstance (T := "StopIteration") (b := true) ⟨o, ho, hc⟩ isSubtype_stop (wpAny_pure (hQ _ eb)))
end
/-- the tuple at a, each item in a new pair with its place -/
def IteT (K : PySem.W.Frag) (a : Addr) : It where
  go := fun i H => ∃ (xs : List V) (x : V), SqT K H a xs ∧ xs[i]? = some x
  yld := fun i H v H' => ∃ T x, v = .ref T ∧ H T = none ∧ H' = upd H T (.tup [.int (i : Nat), x]) ∧ ∀ xs, SqT K H a xs → xs[i]? = some x
  stop := fun i H => ∃ xs : List V, SqT K H a xs ∧ xs.length ≤ i
theorem turnEnumT {P : Program} {w : World} {K : PySem.W.Frag} {elts : List Expr} {kk : Nat} {tpos : Pos} (a e it : Addr) (hat : a ≠ it) :
    Turn P w K (.Tuple elts kk tpos) (IteT K a) [e, it] e (fun i h => (∃ old, IsEnum h e it ((i : Nat) : Int) old) ∧ h.IsTupleIter it a i ∧ e ≠ it ∧ e ≠ a) where
  mem := by simp
  obj := by
    rintro i h ⟨⟨old, he⟩, ⟨o, ho, hc, hd⟩, _⟩ b hb
    have hb' : b = e ∨ b = it := by simpa using hb
    rcases hb' with rfl | rfl
    · exact ⟨_, he, fun v z => nomatch z⟩
    · exact ⟨o, ho, fun v z => by rw [hd] at z; cases z⟩
  keep := by
    rintro i h h' ⟨⟨old, he⟩, hi, hne⟩ k
    exact ⟨⟨old, k e (by simp) _ he⟩, hi.at fun o z => k it (by simp) o z, hne⟩
  item := by
    intro X hP hw hK hc i pins s σ H E I hf st hg
    subst hP hw hK
    obtain ⟨⟨old, he⟩, hit, hne, hea⟩ := st
    obtain ⟨xs, x, hq, hx⟩ := hg
    obtain ⟨its, rv, pt, hz⟩ := I.tuple hq
    obtain ⟨u, hu, ru⟩ := rv.get hx
    have hel : e < s.heap.objs.size := Heap.lt_size he
    have hil : it < s.heap.objs.size := by
      obtain ⟨_, z, _⟩ := hit
      exact Heap.lt_size z
    have hlt : i < its.toArray.size := by
      rw [List.size_toArray]
      exact (List.getElem?_eq_some_iff.mp hu).1
    have efp : e ∉ [it, a] := by
      simp only [List.mem_cons, List.not_mem_nil, or_false, not_or]
      exact ⟨hne, hea⟩
    refine wpAny_pyNext_enum_itemD (Draws.tuple (A := X.A.in1) (I.ok.hd hc) it a hat its.toArray) he ⟨hit, show s.heap.IsTuple a its.toArray from pt⟩ hlt hne efp fun y h' tk hy ho hst hT hsz hk => ?_
    have ey : y = u := by
      have z : its.toArray[i]? = some u := by simpa using hu
      rw [z] at hy
      exact (Option.some.inj hy).symm
    subst ey
    refine ⟨_, rfl, wpAny_letOwnedTupleGo_enum (s := { s with heap := h', toks := tk + 1 }) ho fun h'' he' sb => ?_⟩
    have hT2 : h''.get? s.heap.objs.size = some { cls := .type "tuple", data := .seq #[.int i tk, y] } := (sb.2 _ (Nat.ne_of_gt hel)).trans hT
    have new : ObjOk X.prog X.w (upd H s.heap.objs.size (.tup [.int (i : Nat), x])) h'' s.heap.objs.size (.tup [.int (i : Nat), x]) := by
      refine ⟨?_, [.int i tk, y], .cons ⟨_, rfl⟩ (.cons ru .nil), ⟨_, hT2, rfl, _, rfl⟩⟩
      show 2 ≤ sizeLine
      decide
    have outs : ∀ b, b ∉ [e, it] → b ≠ e ∧ b ≠ it := fun b hb => by
      simp only [List.mem_cons, List.not_mem_nil, or_false, not_or] at hb
      exact hb
    have I1 := I.turnedNew (t' := tk + 1) (ch := [e, it]) (h' := h'') (fun b ob hb z => (sb.2 b (outs b hb).1).trans (hk b ob (outs b hb).1 (outs b hb).2 z)) hf (Nat.le_refl _) new
    refine ⟨.ref s.heap.objs.size, _, I1, rfl, ⟨_, x, rfl, I.hok.fresh (Nat.le_refl _), rfl, fun ys hy => by rw [I.tuple_inj hy hq]; exact hx⟩, ⟨⟨y, ?_⟩, hst.1.at fun o z => (sb.2 it (Ne.symm hne)).trans z, hne, hea⟩, fun b hb => ?_⟩
    · have e1 : ((i + 1 : Nat) : Int) = (i : Int) + 1 := by omega
      rw [e1]
      exact he'
    · have hb' : b = e ∨ b = it := by simpa using hb
      have hbl : b < s.heap.objs.size := by
        rcases hb' with rfl | rfl
        · exact hel
        · exact hil
      rw [upd_ne (Nat.ne_of_lt hbl)]
      exact (hf b hb).1
  done := by
    intro X hP hw hK hc i pins s σ H E I hf st hg
    subst hP hw hK
    obtain ⟨⟨old, he⟩, hit, hne, hea⟩ := st
    obtain ⟨xs, hq, hx⟩ := hg
    obtain ⟨its, rv, pt, hz⟩ := I.tuple hq
    obtain ⟨f0, f1, f2, f3, f4, f5⟩ := hf it (by simp)
    have hl := rv.length
    refine endEnumT (I.ok.hd hc) he hit (show s.heap.IsTuple a its.toArray from pt) (by rw [List.getElem?_toArray]; exact List.getElem?_eq_none (by omega)) fun h' eb => ⟨rfl, I.turned (t' := s.toks) (fun b o hb z => eb b o hb z) f0 f1 f3 f4 f5⟩
  self := by
    rintro A i s Q E ⟨⟨_, he⟩, _⟩ h
    exact wpAny_pyIter_enum he h
def iEnumT (K : PySem.W.Frag) (ta : TA) : TI := fun σ H R => ta σ H fun vs H1 => ∃ a xs, vs = [.ref a] ∧ SqT K H1 a xs ∧ R (IteT K a) H1
theorem piEnumT {X : Cx} {e : Expr} {ta : TA} {p pos tpos : Pos} {elts : List Expr} {kk : Nat} (hg : Gl X "enumerate") (hm : X.mg "enumerate" = none) (ha : PA X [e] ta) (hs : starEach [e] X.env = [(false, eval e X.env)] := by rfl) :
    PI X (.Tuple elts kk tpos) (.Call (.Name "enumerate" p) [e] [] pos) (iEnumT X.K ta) := by
  refine ⟨fun pins s σ H R I h => Call_ (ld_blt I hg hm boot_enumerate (PyProof.Rows.callWith_type1 (thn (ha.run pos pins s σ H _ I h) ?_) hs rfl))⟩
  rintro us s1 ⟨vs, H1, I1, r1, a, xs, rfl, hq, q⟩
  obtain ⟨u, rfl, r⟩ := vals1 r1
  cases r
  obtain ⟨its, rv, pt, hz⟩ := I1.tuple hq
  have hal : a < s1.heap.objs.size := pt.lt
  refine callEnumT (show s1.heap.IsTuple a its.toArray from pt) fun h2 he hit hk => wpAny_pyIter_enum he ?_
  have I2 : Inv X pins σ H1 { s1 with heap := h2 } := I1.kept (t' := s1.toks) hk
  refine ⟨s1.heap.objs.size + 1, [s1.heap.objs.size + 1, s1.heap.objs.size], _, _, H1, rfl, I2, turnEnumT a (s1.heap.objs.size + 1) s1.heap.objs.size (Nat.ne_of_lt hal), ⟨⟨.none, he⟩, hit, Nat.succ_ne_self _, Nat.ne_of_gt (Nat.lt_succ_of_lt hal)⟩, fun b hb => ?_, q⟩
  have hb' : b = s1.heap.objs.size + 1 ∨ b = s1.heap.objs.size := by simpa using hb
  have hle : s1.heap.objs.size ≤ b := by
    rcases hb' with rfl | rfl
    · exact Nat.le_succ _
    · exact Nat.le_refl _
  exact I1.fpOk hle (I1.hok.fresh hle)
end Dn

namespace Dn
open PySem PySem.Spec PyProof.Rows L2

/-! ### what is walked -/
structure ItD (C : Ct) (σ : L2.St) (H : Hp) (ds : List D) (J : It) : Prop where
  go : ∀ H2 i d, Ext (MO C σ) H H2 → ds[i]? = some d → J.go i H2
  yld : ∀ H2 (M' : Addr → Prop) i d x H3, Ext (MO C σ) H H2 → (∀ a, M' a → MO C σ a ∨ H a = none) → ds[i]? = some d → J.yld i H2 x H3 → Same H2 H3 ∧ IsD C.k H3 M' d x
  stop : ∀ H2, Ext (MO C σ) H H2 → J.stop ds.length H2
theorem IsD.newT' {k : Kx} {H : Hp} {M : Addr → Prop} {p : Addr} {ds : List D} {vs : List V} (hp : H p = none) (i : IsDs k H M ds vs) : IsD k (upd H p (.tup vs)) M (.tup ds) (.ref p) :=
  ⟨p, vs, rfl, .inl (.inl upd_same), IsDs.step (Ext.upd hp) (fun _ z => .inl z) _ _ i⟩
def tI (C : Ct) (f : MD (List D)) : TI := fun σ H R => ∃ e, SR C e σ H ∧ Out (fun p => ∀ J H', Ext (OW C σ) H H' → SR C p.2 σ H' → ItD C σ H' p.1 J → R J H') (XO C σ H) (f e)
section
variable {X : Cx} {C : Ct} {tg a b : Expr} {pos p tpos : Pos} {elts : List Expr} {kk : Nat}
theorem PI.imp {t t' : TI} (h : PI X tg a t) (i : ∀ σ H R, t' σ H R → t σ H R) : PI X tg a t' := ⟨fun pins s σ H R I hw => h.run pins s σ H R I (i σ H R hw)⟩
theorem PI.or {t t' : TI} (h : PI X tg a t) (h' : PI X tg a t') : PI X tg a (fun σ H R => t σ H R ∨ t' σ H R) := ⟨fun pins s σ H R I hw => hw.elim (h.run pins s σ H R I) (h'.run pins s σ H R I)⟩
theorem itd_list {K : PySem.W.Frag} {σ : L2.St} {H : Hp} {ds : List D} {vs : List V} {l : Addr} (h1 : H l = some (.lst vs)) (n : ¬ MO C σ l) (h2 : IsDs C.k H (MO C σ) ds vs) : ItD C σ H ds (Itl K l) := by
  have at2 : ∀ H2, Ext (MO C σ) H H2 → SqL K H2 l vs := fun H2 x => .inl (.inl (x l _ h1 (.inl n)))
  refine ⟨fun H2 i d x hd => ?_, fun H2 M' i d x H3 xx mm hd hy => ?_, fun H2 x => ⟨vs, at2 H2 x, Nat.le_of_eq h2.length⟩⟩
  · obtain ⟨v, hv, _⟩ := h2.get hd
    exact ⟨vs, v, at2 H2 x, hv⟩
  · obtain ⟨rfl, hx⟩ := hy
    obtain ⟨v, hv, hi⟩ := (IsDs.step xx mm _ _ h2).get hd
    have e1 := hx vs (at2 _ xx)
    rw [hv] at e1
    cases e1
    exact ⟨Same.refl _, hi⟩
theorem itd_tup {σ : L2.St} {H : Hp} {ds : List D} {vs : List V} {l : Addr} (h1 : SqT C.k.K H l vs) (h2 : IsDs C.k H (MO C σ) ds vs) : ItD C σ H ds (Itt C.k.K l) := by
  have at2 : ∀ H2, Ext (MO C σ) H H2 → SqT C.k.K H2 l vs := fun H2 x => x.sqT h1
  refine ⟨fun H2 i d x hd => ?_, fun H2 M' i d x H3 xx mm hd hy => ?_, fun H2 x => ⟨vs, at2 H2 x, Nat.le_of_eq h2.length⟩⟩
  · obtain ⟨v, hv, _⟩ := h2.get hd
    exact ⟨vs, v, at2 H2 x, hv⟩
  · obtain ⟨rfl, hx⟩ := hy
    obtain ⟨v, hv, hi⟩ := (IsDs.step xx mm _ _ h2).get hd
    have e1 := hx vs (at2 _ xx)
    rw [hv] at e1
    cases e1
    exact ⟨Same.refl _, hi⟩
/-- a list or a tuple -/
def seqM (f : MD D) : MD (List D) := fun e => (f e).bind fun q => match q.1 with
  | .lst ds => .ok (ds, q.2)
  | .tup ds => .ok (ds, q.2)
  | _ => .bad
theorem ji_seq {f : MD D} (hK : C.k.K = X.K) (ha : PE X a (tE C f)) : PI X tg a (tI C (seqM f)) := by
  refine PI.imp (PI.or (pi_list ha) (pi_tup ha)) fun σ H R ⟨e, s, o⟩ => ?_
  rw [← hK]
  have o2 := Out.bind o
  cases e0 : f e with
  | bad =>
    rw [e0] at o2
    exact o2.elim
  | exc y l =>
    rw [e0] at o2
    exact .inl ⟨e, s, by rw [e0]; exact o2⟩
  | ok q =>
    rw [e0] at o2
    obtain ⟨d, e1⟩ := q
    have o3 : Out _ _ (match d with | .lst ds => Dn.R.ok (ds, e1) | .tup ds => .ok (ds, e1) | _ => .bad) := o2
    cases d with
    | lst ds =>
      refine .inl ⟨e, s, ?_⟩
      rw [e0]
      intro v H1 x1 s1 i1
      obtain ⟨l, vs, rfl, h1, n, h2⟩ := i1
      exact ⟨l, rfl, ⟨vs, .inl (.inl h1)⟩, o3 _ H1 x1 s1 (itd_list h1 n h2)⟩
    | tup ds =>
      refine .inr ⟨e, s, ?_⟩
      rw [e0]
      intro v H1 x1 s1 i1
      obtain ⟨l, vs, rfl, h1, h2⟩ := i1
      exact ⟨l, rfl, ⟨vs, h1⟩, o3 _ H1 x1 s1 (itd_tup h1 h2)⟩
    | _ => exact o3.elim
/-- range -/
def rngL (lo : Int) (n : Nat) : List D := (List.range n).map fun (i : Nat) => D.int (lo + (i : Int))
theorem rngL_get (lo : Int) (n i : Nat) : (rngL lo n)[i]? = if i < n then some (D.int (lo + (i : Int))) else none := by
  unfold rngL
  rw [List.getElem?_map]
  by_cases h : i < n
  · rw [if_pos h, List.getElem?_range h]
    rfl
  · rw [if_neg h, List.getElem?_eq_none (by rw [List.length_range]; omega)]
    rfl
theorem rngL_len (lo : Int) (n : Nat) : (rngL lo n).length = n := by
  unfold rngL
  rw [List.length_map, List.length_range]
def rng1M (fa : MD (List D)) : MD (List D) := fun e => (fa e).bind fun q => match q.1 with
  | [.int j] => if -(2 ^ 62) ≤ j ∧ j < 2 ^ 62 then .ok (rngL 0 j.toNat, q.2) else .bad
  | _ => .bad
def rng2M (fa : MD (List D)) : MD (List D) := fun e => (fa e).bind fun q => match q.1 with
  | [.int i, .int j] => if -(2 ^ 62) ≤ i ∧ i < 2 ^ 62 ∧ -(2 ^ 62) ≤ j ∧ j < 2 ^ 62 then .ok (rngL i (j - i).toNat, q.2) else .bad
  | _ => .bad
theorem itd_rng {σ : L2.St} {H : Hp} {lo : Int} {n : Nat} : ItD C σ H (rngL lo n) (Itr lo n) := by
  refine ⟨fun H2 i d x hd => ?_, fun H2 M' i d x H3 xx mm hd hy => ?_, fun H2 x => by show n ≤ _; rw [rngL_len]; exact Nat.le_refl _⟩
  · rw [rngL_get] at hd
    by_cases h : i < n
    · exact h
    · rw [if_neg h] at hd
      cases hd
  · obtain ⟨rfl, rfl⟩ := hy
    rw [rngL_get] at hd
    by_cases h : i < n
    · rw [if_pos h] at hd
      cases hd
      exact ⟨Same.refl _, rfl⟩
    · rw [if_neg h] at hd
      cases hd
theorem ji_rng1 {fa : MD (List D)} (hg : Gl X "range") (hm : X.mg "range" = none) (ha : PA X [a] (tA C fa)) (hs : starEach [a] X.env = [(false, eval a X.env)] := by rfl) : PI X tg (.Call (.Name "range" p) [a] [] pos) (tI C (rng1M fa)) := by
  refine PI.imp (pi_range1 hg hm ha hs) fun σ H R ⟨e, s, o⟩ => ⟨e, s, (Out.bind o).imp (fun q hp => ?_) fun _ _ z => z⟩
  obtain ⟨ds, e1⟩ := q
  intro vs H1 x1 s1 i1
  dsimp only at hp i1 s1
  split at hp
  · split at hp
    · rename_i j hj
      obtain ⟨v, rfl, h⟩ := IsTs.one i1.t
      cases h
      exact ⟨j, rfl, hj.1, hj.2, hp _ H1 x1 s1 itd_rng⟩
    · exact hp.elim
  · exact hp.elim
theorem ji_rng2 {fa : MD (List D)} (hg : Gl X "range") (hm : X.mg "range" = none) (ha : PA X [a, b] (tA C fa)) (hs : starEach [a, b] X.env = [(false, eval a X.env), (false, eval b X.env)] := by rfl) (hs2 : starEach [b] X.env = [(false, eval b X.env)] := by rfl) :
    PI X tg (.Call (.Name "range" p) [a, b] [] pos) (tI C (rng2M fa)) := by
  refine PI.imp (pi_range2 hg hm ha hs hs2) fun σ H R ⟨e, s, o⟩ => ⟨e, s, (Out.bind o).imp (fun q hp => ?_) fun _ _ z => z⟩
  obtain ⟨ds, e1⟩ := q
  intro vs H1 x1 s1 i1
  dsimp only at hp i1 s1
  split at hp
  · split at hp
    · rename_i i j hj
      obtain ⟨v, w, rfl, h, h'⟩ := IsTs.two i1.t
      cases h
      cases h'
      exact ⟨i, j, rfl, hj, hp _ H1 x1 s1 itd_rng⟩
    · exact hp.elim
  · exact hp.elim
/-- enumerate -/
def enumL (ds : List D) : List D := (List.range ds.length).zipWith (fun (i : Nat) d => D.tup [.int (i : Int), d]) ds
def enumFrom (i : Nat) : List D → List D
  | [] => []
  | d :: r => .tup [.int (i : Int), d] :: enumFrom (i + 1) r
theorem enumFrom_get : ∀ (ds : List D) (k i : Nat) , (enumFrom k ds)[i]? = (ds[i]?).map fun d => D.tup [.int ((k + i : Nat) : Int), d]
  | [], k, i => by simp [enumFrom]
  | d :: r, k, 0 => by simp [enumFrom]
  | d :: r, k, i + 1 => by
    show (enumFrom (k + 1) r)[i]? = _
    rw [enumFrom_get r (k + 1) i]
    have e : k + 1 + i = k + (i + 1) := by omega
    rw [e]
    rfl
theorem enumFrom_len : ∀ (ds : List D) (k : Nat), (enumFrom k ds).length = ds.length
  | [], _ => rfl
  | _ :: r, k => congrArg Nat.succ (enumFrom_len r (k + 1))
def enumM (fa : MD (List D)) : MD (List D) := fun e => (fa e).bind fun q => match q.1 with
  | [.lst ds] => .ok (enumFrom 0 ds, q.2)
  | [.tup ds] => .ok (enumFrom 0 ds, q.2)
  | _ => .bad
theorem enum_item {M' : Addr → Prop} {H2 : Hp} {i : Nat} {d d' : D} {x : V} {T : Addr} (hT : H2 T = none) (hi : IsD C.k H2 M' d x) (he : d' = .tup [.int ((i : Nat) : Int), d]) : Same H2 (upd H2 T (.tup [.int (i : Nat), x])) ∧ IsD C.k (upd H2 T (.tup [.int (i : Nat), x])) M' d' (.ref T) := by
  subst he
  exact ⟨same_upd' hT, IsD.newT' hT (.cons rfl (.cons hi .nil))⟩
theorem itd_enumL {K : PySem.W.Frag} {σ : L2.St} {H : Hp} {ds : List D} {vs : List V} {l : Addr} (h1 : H l = some (.lst vs)) (n : ¬ MO C σ l) (h2 : IsDs C.k H (MO C σ) ds vs) : ItD C σ H (enumFrom 0 ds) (Ite K l) := by
  have at2 : ∀ H2, Ext (MO C σ) H H2 → SqL K H2 l vs := fun H2 x => .inl (.inl (x l _ h1 (.inl n)))
  refine ⟨fun H2 i d x hd => ?_, fun H2 M' i d x H3 xx mm hd hy => ?_, fun H2 x => ⟨vs, at2 H2 x, by rw [enumFrom_len]; exact Nat.le_of_eq h2.length⟩⟩
  · rw [enumFrom_get] at hd
    cases e0 : ds[i]? with
    | none =>
      rw [e0] at hd
      cases hd
    | some d0 =>
      obtain ⟨v, hv, _⟩ := h2.get e0
      exact ⟨vs, v, at2 H2 x, hv⟩
  · obtain ⟨T, y, rfl, hT, rfl, hx⟩ := hy
    rw [enumFrom_get] at hd
    cases e0 : ds[i]? with
    | none =>
      rw [e0] at hd
      cases hd
    | some d0 =>
      rw [e0] at hd
      obtain ⟨v, hv, hi⟩ := (IsDs.step xx mm _ _ h2).get e0
      have e1 := hx vs (at2 _ xx)
      rw [hv] at e1
      cases e1
      have e2 : d = .tup [.int ((i : Nat) : Int), d0] := by
        have := Option.some.inj hd
        rw [Nat.zero_add] at this
        exact this.symm
      exact enum_item hT hi e2
theorem itd_enumT {σ : L2.St} {H : Hp} {ds : List D} {vs : List V} {l : Addr} (h1 : SqT C.k.K H l vs) (h2 : IsDs C.k H (MO C σ) ds vs) : ItD C σ H (enumFrom 0 ds) (IteT C.k.K l) := by
  have at2 : ∀ H2, Ext (MO C σ) H H2 → SqT C.k.K H2 l vs := fun H2 x => x.sqT h1
  refine ⟨fun H2 i d x hd => ?_, fun H2 M' i d x H3 xx mm hd hy => ?_, fun H2 x => ⟨vs, at2 H2 x, by rw [enumFrom_len]; exact Nat.le_of_eq h2.length⟩⟩
  · rw [enumFrom_get] at hd
    cases e0 : ds[i]? with
    | none =>
      rw [e0] at hd
      cases hd
    | some d0 =>
      obtain ⟨v, hv, _⟩ := h2.get e0
      exact ⟨vs, v, at2 H2 x, hv⟩
  · obtain ⟨T, y, rfl, hT, rfl, hx⟩ := hy
    rw [enumFrom_get] at hd
    cases e0 : ds[i]? with
    | none =>
      rw [e0] at hd
      cases hd
    | some d0 =>
      rw [e0] at hd
      obtain ⟨v, hv, hi⟩ := (IsDs.step xx mm _ _ h2).get e0
      have e1 := hx vs (at2 _ xx)
      rw [hv] at e1
      cases e1
      have e2 : d = .tup [.int ((i : Nat) : Int), d0] := by
        have := Option.some.inj hd
        rw [Nat.zero_add] at this
        exact this.symm
      exact enum_item hT hi e2
theorem ji_enum {fa : MD (List D)} (hK : C.k.K = X.K) (hg : Gl X "enumerate") (hm : X.mg "enumerate" = none) (ha : PA X [a] (tA C fa)) (hs : starEach [a] X.env = [(false, eval a X.env)] := by rfl) : PI X (.Tuple elts kk tpos) (.Call (.Name "enumerate" p) [a] [] pos) (tI C (enumM fa)) := by
  refine PI.imp (PI.or (pi_enum hg hm ha hs) (piEnumT hg hm ha hs)) fun σ H R ⟨e, s, o⟩ => ?_
  rw [← hK]
  have o2 := Out.bind o
  cases e0 : fa e with
  | bad =>
    rw [e0] at o2
    exact o2.elim
  | exc y l =>
    rw [e0] at o2
    exact .inl ⟨e, s, by rw [e0]; exact o2⟩
  | ok q =>
    rw [e0] at o2
    obtain ⟨ds0, e1⟩ := q
    have o3 : Out _ _ (match ds0 with | [.lst ds] => Dn.R.ok (enumFrom 0 ds, e1) | [.tup ds] => .ok (enumFrom 0 ds, e1) | _ => .bad) := o2
    split at o3
    · refine .inl ⟨e, s, ?_⟩
      rw [e0]
      intro vs H1 x1 s1 i1
      obtain ⟨v, r, rfl, ⟨l, vs, rfl, h1, n, h2⟩, h3⟩ := i1
      rw [show r = [] from h3]
      exact ⟨l, vs, rfl, .inl (.inl h1), o3 _ H1 x1 s1 (itd_enumL h1 n h2)⟩
    · refine .inr ⟨e, s, ?_⟩
      rw [e0]
      intro vs H1 x1 s1 i1
      obtain ⟨v, r, rfl, ⟨l, vs, rfl, h1, h2⟩, h3⟩ := i1
      rw [show r = [] from h3]
      exact ⟨l, vs, rfl, h1, o3 _ H1 x1 s1 (itd_enumT h1 h2)⟩
    · exact o3.elim

/-! ### for, while -/
def forS (g : GD) (b : MS) : List D → MS
  | [], e => .ok (.nx, e)
  | d :: ds, e => (g d e).bind fun e1 => (b e1).bind fun p => match p.1 with
    | .nx => forS g b ds p.2
    | .ct => forS g b ds p.2
    | .bk => .ok (.nx, p.2)
    | .rt v => .ok (.rt v, p.2)
def forM (f : MD (List D)) (g : GD) (b : MS) : MS := fun e => (f e).bind fun p => forS g b p.1 p.2
theorem js_for {iter : Expr} {body : List Stmt} {f : MD (List D)} {g : GD} {fb : MS} (nx : ∀ d e y l, g d e ≠ .exc y l) (hp : PassesOwn (model X.prog X.w) X.A X.env X.xe) (hc : X.calm = true) (hi : PI X tg iter (tI C f)) (hg : PG X tg (tG C g)) (hb : PSs X body (tS C fb))
    (hs : ∀ x, foldedSetIterable iter X.env x = pure x := by intro _; rfl) : PS X (.For tg iter body [] pos) (tS C (forM f g fb)) := by
  refine PS.imp (ps_for hp hc hi hg hb hs) fun Dn σ H ⟨e, s, o⟩ => ⟨e, s, (Out.bind o).imp (fun q hq => ?_) fun _ _ z => z.xo⟩
  obtain ⟨ds, e1⟩ := q
  intro J H1 x1 s1 it
  refine ⟨fun i m σ' H' => m = ds.length - i ∧ i ≤ ds.length ∧ Stp C σ H1 σ' H' ∧ ∃ e', SR C e' σ' H' ∧ OS C σ' H' Dn (forS g fb (ds.drop i) e'), ⟨ds.length, rfl, Nat.zero_le _, Stp.refl, e1, s1, OS.step hq (Stp.of x1)⟩, ?_⟩
  rintro i m σ2 H2 ⟨rfl, hi, x2, e2, s2, o2⟩
  by_cases hlt : i < ds.length
  · have hd : ds[i]? = some ds[i] := List.getElem?_eq_getElem hlt
    rw [List.drop_eq_getElem_cons hlt] at o2
    refine .inr ⟨it.go H2 i _ x2.ex.mo hd, fun σ' H' => Stp C σ H1 σ' H' ∧ ∃ e', SR C e' σ' H' ∧ OS C σ' H' Dn (forS g fb (ds.drop (i + 1)) e'), fun σ' H' ⟨h1, h2⟩ => ⟨_, by omega, rfl, hlt, h1, h2⟩, fun x H3 hy => ?_⟩
    obtain ⟨k3, i3⟩ := it.yld H2 (MO C σ2) i _ x H3 x2.ex.mo x2.mo hd hy
    refine ⟨e2, ds[i], s2.same k3, i3, ?_⟩
    have o3 := Out.bind (show Out _ _ ((g ds[i] e2).bind _) from o2)
    cases e0 : g ds[i] e2 with
    | exc y l => exact absurd e0 (nx _ _ _ _)
    | bad =>
      rw [e0] at o3
      exact o3.elim
    | ok e3 =>
      rw [e0] at o3
      intro σ4 H4 x4 s4
      have x24 : Stp C σ2 H2 σ4 H4 := (Stp.of (same_ext k3)).trans x4
      refine ⟨e3, s4, (Out.bind o3).imp (fun q hq => ?_) fun _ _ z => z.step x24⟩
      obtain ⟨fl, e5⟩ := q
      cases fl with
      | nx => exact fun σ5 H5 x5 s5 => ⟨(x2.trans x24).trans x5, e5, s5, OS.step hq (x24.trans x5)⟩
      | ct => exact fun σ5 H5 x5 s5 => ⟨(x2.trans x24).trans x5, e5, s5, OS.step hq (x24.trans x5)⟩
      | bk => exact fun σ5 H5 x5 s5 => hq σ5 H5 (x24.trans x5) s5
      | rt v => exact hq
  · have e : i = ds.length := by omega
    subst e
    rw [List.drop_length] at o2
    exact .inl ⟨it.stop H2 x2.ex.mo, o2 σ2 H2 Stp.refl s2⟩
/-- while, with a bound of its turns -/
def whS (t : MD Bool) (b : MS) : Nat → MS
  | 0, _ => .bad
  | n + 1, e => (t e).bind fun p => match p.1 with
    | true => (b p.2).bind fun q => match q.1 with
      | .nx => whS t b n q.2
      | .ct => whS t b n q.2
      | .bk => .ok (.nx, q.2)
      | .rt v => .ok (.rt v, q.2)
    | false => .ok (.nx, p.2)
theorem js_while {c : Expr} {body : List Stmt} {t : MD Bool} {fb : MS} (n : Nat) (hp : PassesOwn (model X.prog X.w) X.A X.env X.xe) (hc : PT X c (tT C t)) (hb : PSs X body (tS C fb)) : PS X (.While c body [] pos) (tS C (whS t fb n)) := by
  refine PS.imp (ps_while hp hc hb) fun Dn σ H ⟨e, s, o⟩ => ?_
  refine ⟨fun m σ' H' => Stp C σ H σ' H' ∧ ∃ e', SR C e' σ' H' ∧ OS C σ' H' Dn (whS t fb m e'), ⟨n, Stp.refl, e, s, o⟩, ?_⟩
  rintro m σ1 H1 ⟨x1, e1, s1, o1⟩
  cases m with
  | zero => exact o1.elim
  | succ m =>
    have o2 := Out.bind (show Out _ _ ((t e1).bind _) from o1)
    refine ⟨e1, s1, o2.imp (fun q hq => ?_) fun _ _ z => z.xo⟩
    obtain ⟨bb, e2⟩ := q
    intro H2 x2 s2
    cases bb with
    | false => exact iteF (hq σ1 H2 (Stp.of x2) s2)
    | true =>
      refine iteT ⟨fun σ' H' => Stp C σ H σ' H' ∧ ∃ e', SR C e' σ' H' ∧ OS C σ' H' Dn (whS t fb m e'), fun σ' H' h => ⟨m, Nat.lt_succ_self _, h⟩, e2, s2, ?_⟩
      refine (Out.bind hq).imp (fun q hq => ?_) fun _ _ z => z.step (Stp.of x2)
      obtain ⟨fl, e5⟩ := q
      have x12 := (Stp.of x2 : Stp C σ1 H1 σ1 H2)
      cases fl with
      | nx => exact fun σ5 H5 x5 s5 => ⟨(x1.trans x12).trans x5, e5, s5, OS.step hq (x12.trans x5)⟩
      | ct => exact fun σ5 H5 x5 s5 => ⟨(x1.trans x12).trans x5, e5, s5, OS.step hq (x12.trans x5)⟩
      | bk => exact fun σ5 H5 x5 s5 => hq σ5 H5 (x12.trans x5) s5
      | rt v => exact hq
end
end Dn

namespace Dn
open PySem PySem.Spec PyProof.Rows L2

/-! ### list comprehensions -/
/-- the block's own static part: more that isn't touched, nothing raised -/
def Ct.b (C : Ct) (M' : Addr → Prop) : Ct := { C with M := M', W := fun _ _ _ _ => False }
def noX {α : Type} : R α → R α
  | .ok a => .ok a
  | _ => .bad
theorem noX_out {α : Type} {P : α → Prop} {E E' : Ex → Lc → Prop} {r : R α} (h : Out P E (noX r)) : Out P E' r := by
  cases r with
  | ok a => exact h
  | exc x e => exact h.elim
  | bad => exact h.elim
theorem noX_bind {α β : Type} {P : β → Prop} {E E' : Ex → Lc → Prop} {r : R α} {k : α → R β} (h : Out P E ((noX r).bind k)) : Out (fun a => Out P E (k a)) E' r := by
  cases r with
  | ok a => exact h
  | exc x e => exact h.elim
  | bad => exact h.elim
def wipeL (e : Lc) : List Nat → Lc
  | [] => e
  | v :: vs => (wipeL e vs).set v none
/-- the slots vs as they are in e, all others as in e' -/
def keepL (e e' : Lc) : List Nat → Lc
  | [] => e'
  | v :: vs => (keepL e e' vs).set v (e.getD v none)
def lcS (vs : List Nat) (g : GD) (t : MD Bool) (el : MD D) : List D → Lc → R (List D × Lc)
  | [], e => .ok ([], e)
  | d :: ds, e => (noX (g d e)).bind fun e1 => (noX (t e1)).bind fun p => match p.1 with
    | true => (noX (el p.2)).bind fun q => (lcS vs g t el ds (wipeL q.2 vs)).bind fun r => .ok (q.1 :: r.1, r.2)
    | false => lcS vs g t el ds (wipeL p.2 vs)
def lcM (vs : List Nat) (f : MD (List D)) (g : GD) (t : MD Bool) (el : MD D) : MD (List D) := fun e => (f e).bind fun p => if p.1.length ≤ sizeLine then (lcS vs g t el p.1 (wipeL p.2 vs)).bind fun q => .ok (q.1, keepL p.2 q.2 vs) else .bad
/-- a target of plain names of the block -/
def tGv (C : Ct) (vs : List Nat) (g : GD) : TG := fun v σ H Q => ∃ e d, SR C e σ H ∧ IsD C.k H (MO C σ) d v ∧ Out (fun e' => ∀ σ', OW C σ' = OW C σ → wipe σ' vs = wipe σ vs → SR C e' σ' H → Q σ' H) (fun _ _ => False) (g d e)
def tGvs (C : Ct) (vs : List Nat) (g : List D → Lc → R Lc) : TGs := fun v σ H Q => ∃ e ds, SR C e σ H ∧ IsDs C.k H (MO C σ) ds v ∧ Out (fun e' => ∀ σ', OW C σ' = OW C σ → wipe σ' vs = wipe σ vs → SR C e' σ' H → Q σ' H) (fun _ _ => False) (g ds e)
section
variable {X : Cx} {C : Ct} {pos : Pos} {vs : List Nat}
theorem wipe_set : ∀ {vs : List Nat} {σ : L2.St} {i : Nat} {x : Option V}, i ∈ vs → wipe (σ.set i x) vs = wipe σ vs := by
  have sw : ∀ (vs : List Nat) (σ : L2.St) (i : Nat) (x : Option V), wipe (σ.set i x) vs = if i ∈ vs then wipe σ vs else (wipe σ vs).set i x := by
    intro vs
    induction vs with
    | nil => intro σ i x; simp [wipe]
    | cons v r ih =>
      intro σ i x
      show (wipe (σ.set i x) r).set v none = _
      rw [ih]
      by_cases h1 : i = v
      · subst h1
        rw [if_pos List.mem_cons_self]
        by_cases h2 : i ∈ r
        · rw [if_pos h2]
          rfl
        · rw [if_neg h2, List.set_set]
          rfl
      · by_cases h2 : i ∈ r
        · rw [if_pos h2, if_pos (List.mem_cons_of_mem _ h2)]
          rfl
        · rw [if_neg h2, if_neg (fun z => (List.mem_cons.mp z).elim h1 h2)]
          exact List.set_comm _ _ h1
  intro vs σ i x h
  rw [sw, if_pos h]
theorem wipe_sub {vs : List Nat} {σ : L2.St} : ∀ ws : List Nat, (∀ w ∈ ws, w ∈ vs) → wipe (wipe σ ws) vs = wipe σ vs
  | [], _ => rfl
  | w :: ws, h => by
    show wipe ((wipe σ ws).set w none) vs = _
    rw [wipe_set (h w List.mem_cons_self)]
    exact wipe_sub ws fun u hu => h u (List.mem_cons_of_mem _ hu)
theorem OW_eq {σ : L2.St} {i : Nat} {x : Option V} (hi : i ∉ C.own) : OW C (σ.set i x) = OW C σ := by
  funext a
  refine propext ⟨OW_set hi, fun ⟨j, hj, h⟩ => ⟨j, hj, ?_⟩⟩
  rw [List.getElem?_set_ne (fun z => hi (by rw [z]; exact hj))]
  exact h
theorem MO_of {σ σ1 : L2.St} (h : OW C σ1 = OW C σ) : MO C σ1 = MO C σ := by
  funext a
  show (C.M a ∨ OW C σ1 a) = (C.M a ∨ OW C σ a)
  rw [h]
theorem jv_name {i : Nat} {x : Str} (hi : i ∈ vs) (ho : i ∉ C.own) (hf : Free C i) (hN : X.N.Nodup) (hx0 : X.N[i]? = some x) (hx : Loc X.env.scope x) (hfn : X.fn x = true ∨ X.env.scope.names.lookup x = some .local) : PG X (.Name x pos) (tGv C vs (nmG i)) := by
  refine PG.imp (pg_name hN hx0 hx hfn) fun v σ H Q ⟨e, d, s, iv, o⟩ => ?_
  exact o _ (OW_eq ho) (wipe_set hi) (s.set ho hf iv)
theorem jvs_nil : PGs X [] (tGvs C vs nilG) := by
  refine PGs.imp pgs_nil fun v σ H Q ⟨e, ds, s, iv, o⟩ => ?_
  cases ds with
  | nil => exact ⟨iv, o σ rfl rfl s⟩
  | cons d r => exact o.elim
theorem jvs_cons {a : Expr} {es : List Expr} {g : GD} {h : List D → Lc → R Lc} (h1 : PG X a (tGv C vs g)) (h2 : PGs X es (tGvs C vs h)) (hs : (assignEach (a :: es) X.env).map (·.2) = assign a X.env :: (assignEach es X.env).map (·.2) := by rfl) : PGs X (a :: es) (tGvs C vs (consG g h)) := by
  refine PGs.imp (pgs_cons h1 h2 hs) fun v σ H Q ⟨e, ds, s, iv, o⟩ => ?_
  cases ds with
  | nil => exact o.elim
  | cons d r =>
    obtain ⟨v1, vr, e1, i1, i2⟩ := iv
    refine ⟨v1, vr, e1, e, d, s, i1, (Out.bind o).imp (fun e' he => ?_) fun _ _ z => z⟩
    intro σ1 m1 w1 s1
    refine ⟨e', r, s1, by rw [show MO C σ1 = MO C σ from MO_of m1]; exact i2, he.imp (fun e2 h3 σ2 m2 w2 s2 => h3 σ2 (m2.trans m1) (w2.trans w1) s2) fun _ _ z => z⟩
theorem jv_tup {es : List Expr} {kk : Nat} {h : List D → Lc → R Lc} {n : Nat} (hK : C.k.K = X.K) (hc : X.calm = true) (hg : PGs X es (tGvs C vs h)) (hn : (assignEach es X.env).length = n := by rfl) (hst : (assignEach es X.env).findIdx? (·.1) = none := by rfl) : PG X (.Tuple es kk pos) (tGv C vs (tupG n h)) := by
  refine PG.imp (PG.or (pg_tup hc hg hn hst) (pg_lst hc hg hn hst)) fun v σ H Q ⟨e, d, s, iv, o⟩ => ?_
  rw [← hK]
  unfold tupG at o
  split at o
  · split at o
    · rename_i ds hl
      obtain ⟨a, ws, rfl, h1, h2⟩ := iv
      exact .inl ⟨a, ws, rfl, h1, h2.length.trans hl, e, ds, s, h2, o⟩
    · exact o.elim
  · split at o
    · rename_i ds hl
      obtain ⟨a, ws, rfl, h1, _, h2⟩ := iv
      exact .inr ⟨a, ws, rfl, .inl (.inl h1), h2.length.trans hl, e, ds, s, h2, o⟩
    · exact o.elim
  · exact o.elim
/-! states in and out of a block -/
/-- the slots vs are plain ones -/
def OkVs (C : Ct) (vs : List Nat) : Prop := ∀ v ∈ vs, v ∉ C.own ∧ Free C v
theorem MO_wipe : ∀ {vs : List Nat} {σ : L2.St}, OkVs C vs → MO C (wipe σ vs) = MO C σ
  | [], _, _ => rfl
  | v :: vs, σ, h => by
    show MO C ((wipe σ vs).set v none) = _
    rw [MO_set (h v List.mem_cons_self).1]
    exact MO_wipe fun u hu => h u (List.mem_cons_of_mem _ hu)
theorem OW_wipe : ∀ {vs : List Nat} {σ : L2.St}, OkVs C vs → OW C (wipe σ vs) = OW C σ
  | [], _, _ => rfl
  | v :: vs, σ, h => by
    show OW C ((wipe σ vs).set v none) = _
    rw [OW_eq (h v List.mem_cons_self).1]
    exact OW_wipe fun u hu => h u (List.mem_cons_of_mem _ hu)
theorem wipeL_len (e : Lc) : ∀ vs : List Nat, (wipeL e vs).length = e.length
  | [] => rfl
  | v :: vs => by
    show ((wipeL e vs).set v none).length = _
    rw [List.length_set, wipeL_len e vs]
theorem wipeL_get (e : Lc) (i : Nat) : ∀ vs : List Nat, (wipeL e vs)[i]? = if i ∈ vs then (if i < e.length then some none else none) else e[i]?
  | [] => by simp [wipeL]
  | v :: vs => by
    show ((wipeL e vs).set v none)[i]? = _
    rw [List.getElem?_set, wipeL_get e i vs, wipeL_len]
    by_cases h : v = i
    · subst h
      simp
    · have : i ≠ v := fun z => h z.symm
      simp [h, this, List.mem_cons]
theorem keepL_len (e e' : Lc) : ∀ vs : List Nat, (keepL e e' vs).length = e'.length
  | [] => rfl
  | v :: vs => by
    show ((keepL e e' vs).set v _).length = _
    rw [List.length_set, keepL_len e e' vs]
theorem keepL_get (e e' : Lc) (i : Nat) : ∀ vs : List Nat, (keepL e e' vs)[i]? = if i ∈ vs then (if i < e'.length then some (e.getD i none) else none) else e'[i]?
  | [] => by simp [keepL]
  | v :: vs => by
    show ((keepL e e' vs).set v _)[i]? = _
    rw [List.getElem?_set, keepL_get e e' i vs, keepL_len]
    by_cases h : v = i
    · subst h
      simp
    · have : i ≠ v := fun z => h z.symm
      simp [h, this, List.mem_cons]
theorem wipe_get {σ : L2.St} {i : Nat} : ∀ {vs : List Nat}, i ∉ vs → (wipe σ vs)[i]? = σ[i]?
  | [], _ => rfl
  | v :: vs, h => by
    show ((wipe σ vs).set v none)[i]? = _
    rw [List.getElem?_set_ne (fun z => h (by rw [z]; exact List.mem_cons_self))]
    exact wipe_get fun z => h (List.mem_cons_of_mem _ z)
theorem par_out {vs : List Nat} (hv : OkVs C vs) {a : Addr} (h : C.par = some a) : 0 ∉ vs := fun z => by
  rcases (hv 0 z).2 with q | ⟨_, q⟩
  · rw [q] at h
    cases h
  · exact q rfl
theorem SR.wipe {e : Lc} {σ : L2.St} {H : Hp} (s : SR C e σ H) (hv : OkVs C vs) : SR C (wipeL e vs) (L2.wipe σ vs) H := by
  have out : ∀ {i : Nat}, i ∈ C.own → i ∉ vs := fun hi z => (hv _ z).1 hi
  refine ⟨by rw [wipeL_len, wipe_length]; exact s.len, fun i d hi he => ?_, fun i d hi he => ?_, fun i j a hi hj h1 h2 => ?_, fun i a hi h => ?_, s.ext, s.al, fun i a hi h => ?_, fun i a hi h => ?_, fun a h => ?_, s.pm⟩
  · rw [MO_wipe hv]
    rw [wipeL_get] at he
    by_cases h : i ∈ vs
    · rw [if_pos h] at he
      split at he <;> cases he
    · rw [if_neg h] at he
      rw [wipe_get h]
      exact s.val i d hi he
  · rw [MO_wipe hv]
    rw [wipeL_get, if_neg (out hi)] at he
    rw [wipe_get (out hi)]
    exact s.ow i d hi he
  · rw [wipe_get (out hi)] at h1
    rw [wipe_get (out hj)] at h2
    exact s.dist i j a hi hj h1 h2
  · rw [wipe_get (out hi)] at h
    exact s.fr i a hi h
  · rw [wipe_get (out hi)] at h
    exact s.nm i a hi h
  · rw [wipe_get (out hi)] at h
    exact s.alo i a hi h
  · rw [wipe_get (par_out hv h)]
    exact s.p0 a h
/-- into the block: the new list at q isn't touched by it -/
theorem SR.into {e : Lc} {σ : L2.St} {H : Hp} (s : SR C e σ H) {q : Addr} {o : HO} (hq : H q = none) : SR (C.b fun a => C.M a ∨ a = q) e σ (upd H q o) := by
  have x : Ext (MO C σ) H (upd H q o) := Ext.upd hq
  have mo : ∀ a, MO (C.b fun a => C.M a ∨ a = q) σ a → MO C σ a ∨ H a = none := fun a z => by
    rcases z with (z | z) | z
    · exact .inl (.inl z)
    · exact .inr (by rw [z]; exact hq)
    · exact .inl (.inr z)
  have kp : ∀ a u, H a = some u → upd H q o a = some u := fun a u h => by
    rw [upd_ne (ne_of_none h hq)]
    exact h
  refine ⟨s.len, fun i d hi he => ?_, fun i d hi he => ?_, s.dist, s.fr, fun a u h n => kp a u (s.ext a u h n), fun a h => ?_, fun i a hi h => ?_, fun i a hi h => (s.alo i a hi h).imp fun u z => kp a u z, s.p0, fun a h => (s.pm a h).imp fun u z => kp a u z⟩
  · obtain ⟨v, h1, h2⟩ := s.val i d hi he
    exact ⟨v, h1, IsD.step x mo _ _ h2⟩
  · obtain ⟨a, h1, h2⟩ := s.ow i d hi he
    exact ⟨a, h1, OwnD.step x mo h2 (kp a)⟩
  · rcases h with h | h
    · exact (s.al a h).imp fun u z => kp a u z
    · exact ⟨o, by rw [h]; exact upd_same⟩
  · rcases s.nm i a hi h with z | z
    · refine .inl fun y => y.elim z fun y => ?_
      obtain ⟨u, hu⟩ := s.alo i a hi h
      rw [y, hq] at hu
      cases hu
    · exact .inr z
/-- out of the block -/
theorem SR.out {e e' : Lc} {σ : L2.St} {H H' : Hp} {q : Addr} {ws : List V} (hv : OkVs C vs) (s : SR C e σ H) (hq : H q = none) (s' : SR (C.b fun a => C.M a ∨ a = q) e' (L2.wipe σ vs) H') (hq' : H' q = some (.lst ws)) (x : ∀ a u, H a = some u → (¬ OW C σ a ∨ Fx u) → H' a = some u) :
    SR C (keepL e e' vs) σ (Dn.era H' q) ∧ Ext (OW C σ) H (Dn.era H' q) := by
  have hv' : OkVs (C.b fun a => C.M a ∨ a = q) vs := hv
  have out : ∀ {i : Nat}, i ∈ C.own → i ∉ vs := fun hi z => (hv _ z).1 hi
  have le : e'.length = e.length := by rw [s'.len, wipe_length, s.len]
  have moq : ∀ a, MO C σ a → MO (C.b fun a => C.M a ∨ a = q) (L2.wipe σ vs) a := fun a z => by
    rw [MO_wipe hv']
    rcases z with z | z
    · exact .inl (.inl z)
    · exact .inr z
  have mq : MO (C.b fun a => C.M a ∨ a = q) (L2.wipe σ vs) q := .inl (.inr rfl)
  have nf : ¬ Fx (HO.lst ws) := fun z => z
  have x' : Ext (OW C σ) H (Dn.era H' q) := fun a u h n => by
    have ha : a ≠ q := ne_of_none h hq
    rw [era_ne ha]
    exact x a u h n
  refine ⟨⟨by rw [keepL_len, le, s.len], fun i d hi he => ?_, fun i d hi he => ?_, s.dist, s.fr, fun a u h n => ?_, fun a h => ?_, s.nm, fun i a hi h => ?_, s.p0, fun a h => ?_⟩, x'⟩
  · rw [keepL_get] at he
    by_cases h : i ∈ vs
    · rw [if_pos h] at he
      have he2 : e[i]? = some (some d) := by
        split at he
        · rename_i hl
          rw [le] at hl
          have z : e.getD i none = some d := Option.some.inj he
          rw [List.getD_eq_getElem?_getD, List.getElem?_eq_getElem hl] at z
          rw [List.getElem?_eq_getElem hl]
          exact congrArg some z
        · cases he
      obtain ⟨v, h1, h2⟩ := s.val i d hi he2
      exact ⟨v, h1, IsD.step x'.mo (fun _ z => .inl z) _ _ h2⟩
    · rw [if_neg h] at he
      obtain ⟨v, h1, h2⟩ := s'.val i d hi he
      rw [wipe_get h] at h1
      exact ⟨v, h1, IsD.era hq' nf mq moq _ _ h2⟩
  · rw [keepL_get, if_neg (out hi)] at he
    obtain ⟨a, h1, h2⟩ := s'.ow i d hi he
    rw [wipe_get (out hi)] at h1
    obtain ⟨u, hu⟩ := s.alo i a hi h1
    have ha : a ≠ q := ne_of_none hu hq
    refine ⟨a, h1, ?_⟩
    cases d with
    | lst ds =>
      obtain ⟨ys, h3, h4⟩ := h2
      exact ⟨ys, by rw [era_ne ha]; exact h3, IsDs.era hq' nf mq moq _ _ h4⟩
    | dct ks ds =>
      obtain ⟨ys, h3, h4, h5⟩ := h2
      exact ⟨ys, by rw [era_ne ha]; exact h3, h4, IsDs.era hq' nf mq moq _ _ h5⟩
    | _ => exact h2.elim
  · have h1 := s'.ext a u h n
    have ha : a ≠ q := fun z => by
      have h2 : H a = some u ∨ C.par = some a := by
        by_cases hp : C.par = some a
        · exact .inr hp
        · exact .inl (s.ext a u h (.inl hp))
      rcases h2 with h2 | h2
      · rw [z, hq] at h2
        cases h2
      · obtain ⟨u2, h3⟩ := s.pm a h2
        rw [z, hq] at h3
        cases h3
    rw [era_ne ha]
    exact h1
  · obtain ⟨u, hu⟩ := s.al a h
    have ha : a ≠ q := ne_of_none hu hq
    rw [era_ne ha]
    exact s'.al a (.inl h)
  · obtain ⟨u, hu⟩ := s.alo i a hi h
    have ha : a ≠ q := ne_of_none hu hq
    rw [era_ne ha]
    exact s'.alo i a hi (by rw [wipe_get (out hi)]; exact h)
  · obtain ⟨u, hu⟩ := s.pm a h
    have ha : a ≠ q := ne_of_none hu hq
    rw [era_ne ha]
    exact s'.pm a h
theorem extWr {M : Addr → Prop} {H : Hp} {q : Addr} {o o' : HO} (hM : M q) (h : H q = some o) (hx : ¬ Fx o) : Ext M H (upd H q o') := fun b u z n => by
  have hb : b ≠ q := fun y => by
    subst y
    rcases n with n | n
    · exact n hM
    · rw [h] at z
      cases z
      exact hx n
  rw [upd_ne hb]
  exact z
/-- what isn't touched by a body is changed -/
theorem SR.wrM {C : Ct} {e : Lc} {σ : L2.St} {H : Hp} (s : SR C e σ H) {q : Addr} {o o' : HO} (hM : C.M q) (hq : H q = some o) (hx : ¬ Fx o) (h0 : C.H0 q = none) (hp : C.par ≠ some q) : SR C e σ (upd H q o') := by
  have hm : MO C σ q := .inl hM
  have x : Ext (MO C σ) H (upd H q o') := extWr hm hq hx
  have kp : ∀ b u, H b = some u → ∃ u', upd H q o' b = some u' := fun b u z => by
    by_cases hb : b = q
    · exact ⟨_, by rw [hb]; exact upd_same⟩
    · exact ⟨u, by rw [upd_ne hb]; exact z⟩
  refine ⟨s.len, fun i d hi he => ?_, fun i d hi he => ?_, s.dist, s.fr, fun b u z n => ?_, fun b h => (s.al b h).elim fun u z => kp b u z, s.nm, fun i b hi h => (s.alo i b hi h).elim fun u z => kp b u z, s.p0, fun b h => (s.pm b h).elim fun u z => kp b u z⟩
  · obtain ⟨v, h1, h2⟩ := s.val i d hi he
    exact ⟨v, h1, IsD.step x (fun _ z => .inl z) _ _ h2⟩
  · obtain ⟨a, h1, h2⟩ := s.ow i d hi he
    have ha : a ≠ q := fun z => by
      subst z
      rcases s.nm i a hi h1 with y | y
      · exact y hM
      · exact hp y
    exact ⟨a, h1, OwnD.step x (fun _ z => .inl z) h2 fun u z => by rw [upd_ne ha]; exact z⟩
  · have hb : b ≠ q := fun y => by
      rw [y, h0] at z
      cases z
    rw [upd_ne hb]
    exact s.ext b u z n
theorem PG.exM {a : Expr} {α : Type} {t : α → TG} (h : ∀ m, PG X a (t m)) : PG X a (fun v σ H Q => ∃ m, t m v σ H Q) := ⟨fun pins s σ H v u Q I r ⟨m, hw⟩ => (h m).run pins s σ H v u Q I r hw⟩
theorem PE.exM {a : Expr} {α : Type} {t : α → TE} (h : ∀ m, PE X a (t m)) : PE X a (fun σ H Q => ∃ m, t m σ H Q) := ⟨fun pins s σ H Q I ⟨m, hw⟩ => (h m).run pins s σ H Q I hw⟩
theorem PTs.exM {a : List Expr} {α : Type} {t : α → TT} (h : ∀ m, PTs X a (t m)) : PTs X a (fun σ H Q => ∃ m, t m σ H Q) := ⟨fun pins s σ H Q I ⟨m, hw⟩ => (h m).run pins s σ H Q I hw⟩
def yesT : MD Bool := fun e => .ok (true, e)
theorem jts_nil : PTs X [] (tT C yesT) := ⟨fun pins s σ H Q I ⟨e, s', o⟩ => pts_nil.run pins s σ H Q I (o H (Ext.refl _ _) s')⟩
theorem jts_one {a : Expr} {t : MD Bool} (h : PT X a (tT C t)) : PTs X [a] (tT C t) := pts_one h
theorem lcS_len {g : GD} {t : MD Bool} {el : MD D} : ∀ (ds : List D) (e : Lc) (r : List D × Lc), lcS vs g t el ds e = .ok r → r.1.length ≤ ds.length
  | [], e, r, h => by
    cases h
    exact Nat.le_refl _
  | d :: ds, e, r, h => by
    unfold lcS at h
    cases e1 : noX (g d e) with
    | bad => rw [e1] at h; cases h
    | exc x l => rw [e1] at h; cases h
    | ok e2 =>
      rw [e1] at h
      dsimp only [R.bind_ok] at h
      cases e3 : noX (t e2) with
      | bad => rw [e3] at h; cases h
      | exc x l => rw [e3] at h; cases h
      | ok p =>
        rw [e3] at h
        dsimp only [R.bind_ok] at h
        split at h
        · cases e4 : noX (el p.2) with
          | bad => rw [e4] at h; cases h
          | exc x l => rw [e4] at h; cases h
          | ok q =>
            rw [e4] at h
            dsimp only [R.bind_ok] at h
            cases e5 : lcS vs g t el ds (wipeL q.2 vs) with
            | bad => rw [e5] at h; cases h
            | exc x l => rw [e5] at h; cases h
            | ok r' =>
              rw [e5] at h
              cases h
              exact Nat.succ_le_succ (lcS_len ds _ _ e5)
        · exact Nat.le_succ_of_le (lcS_len ds _ _ h)
theorem Out.any {α : Type} {P : α → Prop} {E E' : Ex → Lc → Prop} {r : R α} (h : Out P E r) (n : ∀ x e, r ≠ .exc x e) : Out P E' r := by
  cases r with
  | ok a => exact h
  | exc x e => exact absurd rfl (n x e)
  | bad => exact h
theorem noX_nx {α : Type} (r : R α) (x : Ex) (e : Lc) : noX r ≠ .exc x e := by
  cases r <;> simp [noX]
theorem lcS_nx {g : GD} {t : MD Bool} {el : MD D} : ∀ (ds : List D) (e : Lc) (x : Ex) (l : Lc), lcS vs g t el ds e ≠ .exc x l
  | [], e, x, l => by simp [lcS]
  | d :: ds, e, x, l => by
    unfold lcS
    cases e1 : noX (g d e) with
    | bad => simp
    | exc x' l' => exact absurd e1 (noX_nx _ _ _)
    | ok e2 =>
      dsimp only [R.bind_ok]
      cases e3 : noX (t e2) with
      | bad => simp
      | exc x' l' => exact absurd e3 (noX_nx _ _ _)
      | ok p =>
        dsimp only [R.bind_ok]
        split
        · cases e4 : noX (el p.2) with
          | bad => simp
          | exc x' l' => exact absurd e4 (noX_nx _ _ _)
          | ok q =>
            dsimp only [R.bind_ok]
            cases e5 : lcS vs g t el ds (wipeL q.2 vs) with
            | bad => simp
            | exc x' l' => exact absurd e5 (lcS_nx ds _ _ _)
            | ok r' => simp
        · exact lcS_nx ds _ _ _
theorem lc_go {σ : L2.St} {H : Hp} {Q : VK} {f : MD (List D)} {g : GD} {t : MD Bool} {el : MD D} (hv : OkVs C vs) (h : tF C (lcM vs f g t el) σ H Q) :
    tLc (tI C f) (fun v σ H Q => ∃ M', tGv (C.b M') vs g v σ H Q) (fun σ H Q => ∃ M', tT (C.b M') t σ H Q) (fun σ H Q => ∃ M', tE (C.b M') el σ H Q) vs σ H Q := by
  obtain ⟨e, s, o⟩ := h
  refine ⟨e, s, (Out.bind o).imp (fun p hp => ?_) fun _ _ z => z⟩
  obtain ⟨ds, e1⟩ := p
  intro J H1 x1 s1 it q hq
  dsimp only at hp s1 it
  by_cases hz : ds.length ≤ sizeLine
  · rw [if_pos hz] at hp
    have hv' : OkVs (C.b fun a => C.M a ∨ a = q) vs := hv
    have hp2 : Out (fun r => PF C σ H Q (r.1, keepL e1 r.2 vs)) (fun _ _ => False) (lcS vs g t el ds (wipeL e1 vs)) := (Out.any (Out.bind hp) (lcS_nx _ _)).imp (fun r z => z) fun _ _ z => z
    clear hp
    have q0 : C.H0 q = none := by
      cases z : C.H0 q with
      | none => rfl
      | some u =>
        by_cases hpq : C.par = some q
        · obtain ⟨u2, h2⟩ := s1.pm q hpq
          rw [hq] at h2
          cases h2
        · have := s1.ext q u z (.inl hpq)
          rw [hq] at this
          cases this
    have qp : C.par ≠ some q := fun z => by
      obtain ⟨u2, h2⟩ := s1.pm q z
      rw [hq] at h2
      cases h2
    have mq : ∀ τ, MO (C.b fun a => C.M a ∨ a = q) τ q := fun τ => .inl (.inr rfl)
    refine ⟨fun i m H' => m = ds.length - i ∧ i ≤ ds.length ∧ ∃ acc accV e', H' q = some (.lst accV) ∧ IsDs C.k H' (MO (C.b fun a => C.M a ∨ a = q) (L2.wipe σ vs)) acc accV ∧ acc.length ≤ i ∧ (∀ a u, H1 a = some u → (¬ OW C σ a ∨ Fx u) → H' a = some u) ∧
      SR (C.b fun a => C.M a ∨ a = q) e' (L2.wipe σ vs) H' ∧ Out (fun r => PF C σ H Q (acc ++ r.1, keepL e1 r.2 vs)) (fun _ _ => False) (lcS vs g t el (ds.drop i) e'),
      ⟨ds.length, rfl, Nat.zero_le _, [], [], wipeL e1 vs, upd_same, rfl, Nat.le_refl _, fun a u z _ => by rw [upd_ne (ne_of_none z hq)]; exact z, (s1.into hq).wipe hv', ?_⟩, ?_⟩
    · exact hp2
    · rintro i m H2 ⟨rfl, hi, acc, accV, e2, h1, h2, h3, x2, s2, o2⟩
      have xx : Ext (OW C σ) H1 H2 := x2
      by_cases hlt : i < ds.length
      · have hd : ds[i]? = some ds[i] := List.getElem?_eq_getElem hlt
        rw [List.drop_eq_getElem_cons hlt] at o2
        refine .inr ⟨it.go H2 i _ xx.mo hd, fun H' => ∃ acc accV e', H' q = some (.lst accV) ∧ IsDs C.k H' (MO (C.b fun a => C.M a ∨ a = q) (L2.wipe σ vs)) acc accV ∧ acc.length ≤ i + 1 ∧ (∀ a u, H1 a = some u → (¬ OW C σ a ∨ Fx u) → H' a = some u) ∧
          SR (C.b fun a => C.M a ∨ a = q) e' (L2.wipe σ vs) H' ∧ Out (fun r => PF C σ H Q (acc ++ r.1, keepL e1 r.2 vs)) (fun _ _ => False) (lcS vs g t el (ds.drop (i + 1)) e'), fun H' h => ⟨_, by omega, rfl, hlt, h⟩, fun x H3 hy => ?_⟩
        obtain ⟨k3, i3⟩ := it.yld H2 (MO (C.b fun a => C.M a ∨ a = q) (L2.wipe σ vs)) i _ x H3 xx.mo (fun a z => by
          rw [MO_wipe hv'] at z
          rcases z with (z | z) | z
          · exact .inl (.inl z)
          · exact .inr (by rw [z]; exact hq)
          · exact .inl (.inr z)) hd hy
        refine ⟨_, e2, ds[i], s2.same k3, i3, ?_⟩
        have o3 := noX_bind (E' := fun _ _ => False) (show Out _ _ ((noX (g ds[i] e2)).bind _) from o2)
        refine o3.imp (fun e3 o4 => ?_) fun _ _ z => z
        intro σ4 m4 w4 s4
        rw [wipe_sub vs fun _ z => z] at w4
        refine ⟨w4, _, e3, s4, ?_⟩
        refine (noX_bind o4).imp (fun pt o5 => ?_) fun _ _ z => z
        obtain ⟨b, e5⟩ := pt
        intro H5 x5 s5
        have ext1 : ∀ {Ha Hb : Hp}, Ext (OW (C.b fun a => C.M a ∨ a = q) σ4) Ha Hb → Ext (OW (C.b fun a => C.M a ∨ a = q) (L2.wipe σ vs)) Ha Hb := fun {Ha Hb} z => by
          rw [← m4]
          exact z
        have xq : ∀ {Ha Hb : Hp}, Ext (OW (C.b fun a => C.M a ∨ a = q) (L2.wipe σ vs)) Ha Hb → ∀ a u, H1 a = some u → (¬ OW C σ a ∨ Fx u) → Ha a = some u → Hb a = some u := fun {Ha Hb} y a u z n w => y a u w (n.imp (fun n z2 => by
          rw [OW_wipe hv'] at z2
          exact n z2) id)
        have nq : ∀ τ (H' : Hp) (e' : Lc), SR (C.b fun a => C.M a ∨ a = q) e' τ H' → ¬ OW (C.b fun a => C.M a ∨ a = q) τ q := fun τ H' e' s' ⟨j, hj, z⟩ => by
          rcases s'.nm j q hj z with y | y
          · exact y (.inr rfl)
          · exact qp y
        have x5' := ext1 x5
        have h15 : H5 q = some (.lst accV) := x5' q _ (k3 _ _ h1) (.inl (nq _ _ _ s2))
        have i25 := IsDs.step x5'.mo (fun _ z => .inl z) _ _ (IsDs.step (same_ext k3) (fun _ z => .inl z) _ _ h2)
        cases b with
        | false =>
          refine iteF ⟨acc, accV, wipeL e5 vs, h15, i25, Nat.le_succ_of_le h3, fun a u z n => xq x5' a u z n (k3 _ _ (x2 a u z n)), ?_, o5⟩
          rw [← w4]
          exact s5.wipe hv'
        | true =>
          refine iteT ⟨_, e5, s5, ?_⟩
          refine (noX_bind (E' := fun _ _ => False) o5).imp (fun pq o6 => ?_) fun _ _ z => z.elim
          obtain ⟨d7, e7⟩ := pq
          intro y H7 x7 s7 i7
          have x7' := ext1 x7
          have h17 : H7 q = some (.lst accV) := x7' q _ h15 (.inl (nq _ _ _ s2))
          have i27 := IsDs.step x7'.mo (fun _ z => .inl z) _ _ i25
          have mm : MO (C.b fun a => C.M a ∨ a = q) σ4 = MO (C.b fun a => C.M a ∨ a = q) (L2.wipe σ vs) := MO_of m4
          rw [mm] at i7
          have wr : Ext (MO (C.b fun a => C.M a ∨ a = q) (L2.wipe σ vs)) H7 (upd H7 q (.lst (accV ++ [y]))) := extWr (mq _) h17 fun z => z
          have ha : accV.length = acc.length := i27.length
          refine ⟨accV, h17, by omega, acc ++ [d7], accV ++ [y], wipeL e7 vs, upd_same, IsDs.step wr (fun _ z => .inl z) _ _ (i27.app (.cons i7 .nil)), by rw [List.length_append]; exact Nat.succ_le_succ h3, fun a u z n => ?_, ?_, ?_⟩
          · rw [upd_ne (ne_of_none z hq)]
            exact xq x7' a u z n (xq x5' a u z n (k3 _ _ (x2 a u z n)))
          · rw [← w4]
            exact (s7.wrM (.inr rfl) h17 (fun z => z) q0 qp).wipe hv'
          · refine (Out.bind o6).imp (fun r hr => ?_) fun _ _ z => z
            rw [List.append_assoc]
            exact hr
      · have ei : i = ds.length := by omega
        subst ei
        rw [List.drop_length] at o2
        have hfin : PF C σ H Q (acc ++ [], keepL e1 e2 vs) := o2
        rw [List.append_nil] at hfin
        obtain ⟨s9, x9⟩ := SR.out hv s1 hq s2 h1 x2
        have mq2 : ∀ a, MO C σ a → MO (C.b fun a => C.M a ∨ a = q) (L2.wipe σ vs) a := fun a z => by
          rw [MO_wipe hv']
          rcases z with z | z
          · exact .inl (.inl z)
          · exact .inr z
        have fin := hfin accV (Dn.era H2 q) q (x1.trans x9) s9 (IsDs.era h1 (fun z => z) (mq _) mq2 _ _ h2) era_same
        rw [era_upd h1] at fin
        exact .inl ⟨it.stop H2 xx.mo, fin⟩
  · rw [if_neg hz] at hp
    exact hp.elim
theorem jf_lc {elt tg iter : Expr} {ifs : List Expr} {scope : Scope} {own : List (Str × Nat)} {f : MD (List D)} {g : GD} {t : MD Bool} {el : MD D} (hc : X.calm = true) (hN : X.N.Nodup) (hv : OkVs C (own.map (·.2))) (hi : PI X tg iter (tI C f)) (ok : BlkOk X.N X.env.scope scope own)
    (hg : ∀ (M' : Addr → Prop) (s : Shared) (H : Hp) (Ca : Addr) (cl : List (Str × Addr)) (fp : List Addr), PG (X.blk s H scope (compEnvC scope cl Ca X.env) fp) tg (tGv (C.b M') (own.map (·.2)) g))
    (ht : ∀ (M' : Addr → Prop) (s : Shared) (H : Hp) (Ca : Addr) (cl : List (Str × Addr)) (fp : List Addr), PTs (X.blk s H scope (compEnvC scope cl Ca X.env) fp) ifs (tT (C.b M') t))
    (he : ∀ (M' : Addr → Prop) (s : Shared) (H : Hp) (Ca : Addr) (cl : List (Str × Addr)) (fp : List Addr), PE (X.blk s H scope (compEnvC scope cl Ca X.env) fp) elt (tE (C.b M') el)) (hs : ∀ x, foldedSetIterable iter X.env x = pure x := by intro _; rfl) :
    PE X (.ListComp elt [⟨tg, iter, ifs, 0⟩] scope pos) (tF C (lcM (own.map (·.2)) f g t el)) :=
  PE.imp (pe_lc hc hN hi ok (fun s H Ca cl fp => PG.exM fun M' => hg M' s H Ca cl fp) (fun s H Ca cl fp => PTs.exM fun M' => ht M' s H Ca cl fp) (fun s H Ca cl fp => PE.exM fun M' => he M' s H Ca cl fp) hs) fun σ H Q h => lc_go hv h
end
end Dn

namespace Dn
open PySem PySem.Spec PyProof.Rows L2
/-! ### defs that are called where no repr is under way -/
/-- what a def promises, called by any that stands in no repr -/
structure FnG (Pg : Program) (wd : World) (Kt : PySem.W.Frag) (gl : Str → Option Value) (bs : Heap) (CX : CXT) (lv : Nat) (fa : Addr) (fd : FuncData) (nms : List Str) (sp : Sp) : Prop where
  many : ∀ xs H Q E, sp xs H Q E → xs.length = nms.length
  goes : ∀ (B : Around) (envs : List Env) (t : Shared) (H : Hp) (ar : Args) (gv : List Value) (xs : List V) (Q : VK) (E : XK), B.guards = some [] → Room lv B → Env0 Pg wd Kt gl bs B envs t H → BindsTo t fd ar (nms.zip gv) → Vals xs gv → sp xs H Q E → codeAny (model Pg wd) B (.call (.ref fa) ar) (CR CX envs Pg wd H t Q E) t
theorem FnG.lift {Pg : Program} {wd : World} {Kt : PySem.W.Frag} {gl : Str → Option Value} {bs : Heap} {CX : CXT} {i j : Nat} {fa : Addr} {fd : FuncData} {nms : List Str} {sp : Sp} (G : FnG Pg wd Kt gl bs CX i fa fd nms sp) (h : i ≤ j) : FnG Pg wd Kt gl bs CX j fa fd nms sp :=
  ⟨G.many, fun B envs t H ar gv xs Q E hg hr => G.goes B envs t H ar gv xs Q E hg (hr.mono h)⟩
/-- room, and no repr under way -/
structure RoomG (lv : Nat) (B : Around) : Prop where
  room : Room lv B
  none : B.guards = some []
theorem RoomG.mono {i j : Nat} {B : Around} (r : RoomG j B) (h : i ≤ j) : RoomG i B := ⟨r.room.mono h, r.none⟩
theorem RoomG.units {i : Nat} {B : Around} (r : RoomG i B) : B.units + 64 < cLine := r.room.units
theorem RoomG.units0 {i : Nat} {B : Around} (r : RoomG i B) : B.units < cLine := r.room.units0
/-- the same at one place -/
structure FnAt (X : Cx) (CX : CXT) (fa : Addr) (fd : FuncData) (nms : List Str) (sp : Sp) : Prop where
  many : ∀ xs H Q E, sp xs H Q E → xs.length = nms.length
  goes : ∀ (t : Shared) (H : Hp) (ar : Args) (gv : List Value) (xs : List V) (Q : VK) (E : XK), Env0 X.prog X.w X.K X.mg X.base X.A X.stack t H → BindsTo t fd ar (nms.zip gv) → Vals xs gv → sp xs H Q E → codeAny (model X.prog X.w) X.A (.call (.ref fa) ar) (CR CX X.stack X.prog X.w H t Q E) t
section
variable {X : Cx} {CX : CXT} {lv i : Nat} {fa : Addr} {fd : FuncData} {nms : List Str} {sp : Sp}
theorem FnG.at (G : FnG X.prog X.w X.K X.mg X.base CX lv fa fd nms sp) (hr : RoomG lv X.A) : FnAt X CX fa fd nms sp := ⟨G.many, fun t H ar gv xs Q E => G.goes X.A X.stack t H ar gv xs Q E hr.none hr.room⟩
/-- where the callee's end is the caller's -/
theorem FnAt.ends {pins : List (Addr × Obj)} {σ : L2.St} {H : Hp} {t : Shared} {Q : VK} {E : XK} {ar : Args} {gv : List Value} {xs : List V} (G : FnAt X CX fa fd nms sp) (hb : BindsTo t fd ar (nms.zip gv)) (hx : PassesAt CX X σ E) (I : Inv X pins σ H t) (rl : Vals xs gv) (h : sp xs H Q E) :
    wpAny (model X.prog X.w) X.A (call (.ref fa) ar.pos ar.kw) (EP X pins σ Q) X.xe t := by
  have run := G.goes t H ar gv xs Q E I.env0 hb rl h
  apply wpAny_call
  apply codeAny_mono run
  intro end1 t2 he
  match end1, he with
  | .error z, he => exact hx pins H t z t2 I he
  | .ok (.ret z), he => exact I.after he
  | .ok .next, he => exact he.elim
  | .ok .brk, he => exact he.elim
  | .ok .cont, he => exact he.elim
end
section
variable {X : Cx} {CX : CXT} {lv i m : Nat} {fa : Addr} {fd : FuncData} {nms ks : List Str} {sp : Sp} {dv : List V} {dvl : List Value} {E : L2.St → XK} {x : Str} {px pos : Pos} {e : Expr} {es : List Expr} {kws : List Keyword} {ta tk : TA} {gl : List Value → List Value → List Value} {gV : List V → List V → List V}
/-- f(e, ..) -/
theorem pe_at (G : FnAt X CX fa fd nms sp) (hgl : Gl X x) (hm : X.mg x = some (.ref fa)) (hk : PySem.W.keepIn X.K (.ref fa) = true) (hb : L2.Binds X.K fd nms dvl) (hd : Vals dv dvl) (hx : ∀ σ, PassesAt CX X σ (E σ)) (ha : PA X (e :: es) ta) (hdb : (x == ("__debug__" : Str)) = false := by decide)
    (he : starEach (e :: es) X.env = (false, eval e X.env) :: starEach es X.env := by rfl) (hpl : (backTo pos (starEach es X.env)).any (·.1) = false := by rfl) : PE X (.Call (.Name x px) (e :: es) [] pos) (fun σ H Q => ta σ H fun vs H1 => sp (vs ++ dv) H1 Q (E σ)) := by
  constructor
  intro pins t σ H Q I h
  apply wpAny_Call_Name_kw
  refine ld_glob I hgl hm ?_ hdb
  refine PySem.W.callWith_K (h₀ := X.base) I.ok.mod.kin hk ?_ he hpl
  refine thn (ha.run pos pins t σ H _ I h) ?_
  rintro gv t1 ⟨xs, H1, I1, rl, q⟩
  have rl2 : Vals (xs ++ dv) (gv ++ dvl) := rl.append hd
  have ln : (gv ++ dvl).length = nms.length := rl2.length.symm.trans (G.many _ _ _ _ q)
  exact ⟨I1.kIn, G.ends (ar := ⟨gv, []⟩) (hb t1 gv I1.kIn ln) (hx σ) I1 rl2 q⟩
/-- f() -/
theorem pe_at0 (G : FnAt X CX fa fd nms sp) (hgl : Gl X x) (hm : X.mg x = some (.ref fa)) (hk : PySem.W.keepIn X.K (.ref fa) = true) (hb : L2.Binds X.K fd nms dvl) (hd : Vals dv dvl) (hx : ∀ σ, PassesAt CX X σ (E σ)) (hdb : (x == ("__debug__" : Str)) = false := by decide) :
    PE X (.Call (.Name x px) [] [] pos) (fun σ H Q => sp dv H Q (E σ)) := by
  constructor
  intro pins t σ H Q I h
  apply wpAny_Call_Name_kw
  refine ld_glob I hgl hm ?_ hdb
  have ln : ([] ++ dvl).length = nms.length := by
    rw [List.nil_append]
    exact hd.length.symm.trans (G.many _ _ _ _ h)
  exact PySem.W.callWith_K0 I.kIn hk (G.ends (ar := ⟨[], []⟩) (gv := [] ++ dvl) (hb t [] I.kIn ln) (hx σ) I (by rw [List.nil_append]; exact hd) h)
/-- f(k = v, ..) -/
theorem pe_atK0 (G : FnAt X CX fa fd nms sp) (hgl : Gl X x) (hm : X.mg x = some (.ref fa)) (hk : PySem.W.keepIn X.K (.ref fa) = true) (hb : KBn X.K fd nms 0 ks gl gV) (hx : ∀ σ, PassesAt CX X σ (E σ))
    (hkw : PK X kws tk) (hall : (backToKw pos (keywordEach kws X.env)).all (·.1.isSome) = true := by rfl) (hks : (backToKw pos (keywordEach kws X.env)).filterMap (·.1) = ks := by rfl) (hdb : (x == ("__debug__" : Str)) = false := by decide)
    (hpl : ((backTo pos (starEach [] X.env)).any (·.1) || (backToKw pos (keywordEach kws X.env)).any (·.1.isNone)) = false := by rfl) :
    PE X (.Call (.Name x px) [] kws pos) (fun σ H Q => tk σ H fun zs H2 => zs.length = ks.length ∧ sp (gV [] zs) H2 Q (E σ)) := by
  constructor
  intro pins t σ H Q I h
  apply wpAny_Call_Name_kw
  refine ld_glob I hgl hm ?_ hdb
  refine PySem.W.callWith_KW0 (h₀ := X.base) I.ok.mod.kin hk hall ?_ hpl
  refine thn (hkw.run pos pins t σ H _ I h) ?_
  rintro ws t2 ⟨zs, H2, I2, rz, l2, q2⟩
  refine ⟨I2.kIn, ?_⟩
  rw [hks]
  exact G.ends (ar := ⟨[], ks.zip ws⟩) (hb.to t2 [] ws I2.kIn rfl (rz.length.symm.trans l2)) (hx σ) I2 (hb.rel (vs := []) (us := []) .nil rz) q2
/-- f(e, .., k = v, ..) -/
theorem pe_atK (G : FnAt X CX fa fd nms sp) (hgl : Gl X x) (hm : X.mg x = some (.ref fa)) (hk : PySem.W.keepIn X.K (.ref fa) = true) (hb : KBn X.K fd nms m ks gl gV) (hx : ∀ σ, PassesAt CX X σ (E σ)) (ha : PA X (e :: es) ta)
    (hkw : PK X kws tk) (hall : (backToKw pos (keywordEach kws X.env)).all (·.1.isSome) = true := by rfl) (hks : (backToKw pos (keywordEach kws X.env)).filterMap (·.1) = ks := by rfl) (hdb : (x == ("__debug__" : Str)) = false := by decide)
    (he : starEach (e :: es) X.env = (false, eval e X.env) :: starEach es X.env := by rfl) (hpl : ((backTo pos (starEach (e :: es) X.env)).any (·.1) || (backToKw pos (keywordEach kws X.env)).any (·.1.isNone)) = false := by rfl) :
    PE X (.Call (.Name x px) (e :: es) kws pos) (fun σ H Q => ta σ H fun vs H1 => tk σ H1 fun zs H2 => vs.length = m ∧ zs.length = ks.length ∧ sp (gV vs zs) H2 Q (E σ)) := by
  constructor
  intro pins t σ H Q I h
  apply wpAny_Call_Name_kw
  refine ld_glob I hgl hm ?_ hdb
  refine PySem.W.callWith_KW (h₀ := X.base) I.ok.mod.kin hk hall ?_ hpl he
  refine thn (ha.run pos pins t σ H _ I h) ?_
  rintro gv t1 ⟨xs, H1, I1, rl, q⟩
  refine thn (hkw.run pos pins t1 σ H1 _ I1 q) ?_
  rintro ws t2 ⟨zs, H2, I2, rz, l1, l2, q2⟩
  refine ⟨I2.kIn, ?_⟩
  rw [hks]
  exact G.ends (ar := ⟨gv, ks.zip ws⟩) (hb.to t2 gv ws I2.kIn (rl.length.symm.trans l1) (rz.length.symm.trans l2)) (hx σ) I2 (hb.rel rl rz) q2
/-- x(e, ..), x a local name that holds f -/
theorem pe_atL (G : FnAt X CX fa fd nms sp) (hN : X.N[i]? = some x) (hv : Vis X.env.scope x) (hk : PySem.W.keepIn X.K (.ref fa) = true) (hb : L2.Binds X.K fd nms dvl) (hd : Vals dv dvl) (hx : ∀ σ, PassesAt CX X σ (E σ)) (ha : PA X (e :: es) ta) (hdb : (x == ("__debug__" : Str)) = false := by decide) (hcd : (x == ("__classdict__" : Str)) = false := by decide)
    (he : starEach (e :: es) X.env = (false, eval e X.env) :: starEach es X.env := by rfl) (hpl : (backTo pos (starEach es X.env)).any (·.1) = false := by rfl) :
    PE X (.Call (.Name x px) (e :: es) [] pos) (fun σ H Q => σ[i]? = some (some (.ref fa)) ∧ ta σ H fun vs H1 => sp (vs ++ dv) H1 Q (E σ)) := by
  constructor
  rintro pins t σ H Q I ⟨hs, h⟩
  apply wpAny_Call_Name_kw
  refine thn ((pe_var (pos := px) hN hv hdb hcd).run pins t σ H (fun z H0 => z = .ref fa ∧ H0 = H) I ⟨.ref fa, hs, rfl, rfl⟩) ?_
  rintro u t0 ⟨z, H0, I0, r0, rfl, rfl⟩
  cases r0
  refine PySem.W.callWith_K (h₀ := X.base) I.ok.mod.kin hk ?_ he hpl
  refine thn (ha.run pos pins t0 σ _ _ I0 h) ?_
  rintro gv t1 ⟨xs, H1, I1, rl, q⟩
  have rl2 : Vals (xs ++ dv) (gv ++ dvl) := rl.append hd
  have ln : (gv ++ dvl).length = nms.length := rl2.length.symm.trans (G.many _ _ _ _ q)
  exact ⟨I1.kIn, G.ends (ar := ⟨gv, []⟩) (hb t1 gv I1.kIn ln) (hx σ) I1 rl2 q⟩
end
section
variable {Pg : Program} {wd : World} {Kt : PySem.W.Frag} {gl : Str → Option Value} {bs : Heap} {CX : CXT} {lv : Nat} {x qual : Str} {params : Arguments} {body : List Stmt} {scope : Scope} {dvs : List V} {kws : List (Str × V)} {fa : Addr} {fd : FuncData} {N nms : List Str} {sp : Sp}
/-- a def keeps its promise by its body, where no repr is under way -/
theorem fnG_of (D : FunD Kt x qual params body scope dvs kws fa fd) (S : FnScope N nms scope) (many : ∀ xs H Q E, sp xs H Q E → xs.length = nms.length)
    (hbody : ∀ (cdv : Value) (B : Around) (envs : List Env) (t : Shared) (H : Hp) (xs : List V) (Q : VK) (E : XK), RoomG lv (B.deeper (envOfC qual scope t.heap.objs.size fa cdv)) → sp xs H Q E →
      ∃ st, PSs (cxOf CX Pg wd Kt gl bs N qual scope fa cdv B envs t H E) body st ∧ st { nx := fun _ H' => Q .non H', rt := Q } (start N xs) H) : FnG Pg wd Kt gl bs CX (lv + 1) fa fd nms sp := by
  obtain ⟨oc, od, dV, kV, doc, pm, an, cdv, ct, osl, rfl, lk, hcd, _, _⟩ := D.ex
  constructor
  · exact many
  intro B envs t H ar gv xs Q E hg hr e0 hb rl h
  have ln := many _ _ _ _ h
  have hbs := fun b o (e : bs.get? b = some o) => (e0.bs b o e).1
  have kin : Kt.In t.heap := e0.mod.kin.keeps hbs
  have nol : t.heap.NoLimit := e0.mod.nolimit.keeps hbs
  have kinds : ∀ y ∈ nms.zip gv, scope.names.lookup y.1 = some .local ∨ (scope.names.lookup y.1 = some .cell ∧ ((cellsFrom (t.heap.objs.size + 1) scope.names []).lookup y.1).isSome = true) := by
    rintro ⟨nm, v⟩ hy
    exact (S.par nm (List.of_mem_zip hy).1).imp id fun z => ⟨z, PySem.W.cellsFrom_some _ _ _ (.inl z)⟩
  apply codeAny_call_function hr.depth (kin _ _ lk) rfl S.co S.gen rfl (PySem.W.codeRec_of kin hcd)
  apply hb
  apply wpAny_newFunctionEnv_cells S.kind kinds
  rintro env rfl t1 fresh
  refine ⟨nol.keeps fresh.toInCall.keep, codeAny_func ?_⟩
  obtain ⟨st, hst, hq⟩ := hbody cdv B envs t H xs Q E ⟨hr.deeper _, hg⟩ h
  have I := inv_start (E := E) (CX := CX) S hr.hd e0 ln rl fresh
  apply wpAny_mono (hst.run [] t1 (start N xs) H _ I hq)
  · intro fl t2 he
    match fl, he with
    | .ret u, ⟨v, σ', H', J, rv, q⟩ => exact ⟨v, H', J.os, J.bare, J.base, J.hok, rv, q⟩
    | .next, ⟨σ', H', J, q⟩ => exact ⟨V.non, H', J.os, J.bare, J.base, J.hok, rfl, q⟩
    | .brk, ⟨_, _, _, q⟩ => exact q.elim
    | .cont, ⟨_, _, _, q⟩ => exact q.elim
  · exact fun _ _ he => he
end
/-! ### the law's own call -/
section
variable {Pg : Program} {wd : World} {Kt : PySem.W.Frag} {gl mb : Str → Option Value} {CX : CXT} {lv : Nat} {fa sc : Addr} {fd : FuncData} {x : Str} {sp : Sp} {t : Shared} {its : List Value} {ns : List Int}
/-- the script's object, and no other, may be known -/
theorem topG_at (H : Hp) (kin : Kt.In t.heap) (hns : t.heap.Ns mainGlobals gl) (hbn : t.heap.Ns builtinsNs mb) (hbt : ∀ y : Str, y ≠ "__name__" → mb y = bootBuiltins y) (nol : t.heap.NoLimit) (hgen : t.gens = #[])
    (hsc : t.heap.get? sc = some { cls := .type "list", data := .seq its.toArray }) (hr : Room lv callerA)
    (G : ∀ bs : Heap, Kt.In bs → bs.Ns mainGlobals gl → FnG Pg wd Kt gl bs CX lv fa fd [x] sp) (hbind : ∀ (t : Shared) (u : Value), BindsTo t fd ⟨[u], []⟩ [(x, u)])
    (hsp : sp [.ref sc] H (fun v _ => v = .bl true) fun _ _ _ => False) (hCX : ∀ e t2, CX [] H t (fun _ _ _ => False) e t2 → False)
    (hO : Only H) (hok : HOk Pg wd H t.heap) (hone : ∀ b, H b ≠ none → b = sc) (hfree : H sc ≠ none → Kt.lookup sc = none) :
    codeAny (model Pg wd) callerA (.call (.ref fa) ⟨[.ref sc], []⟩) (fun r t2 => r = .ok (.ret (.bool true)) ∧ OldK t.heap t2.heap ∧ t2.os = t.os ∧ AllBare t2.gens) t := by
  have other : ∀ {b : Addr} {o : Obj}, t.heap.get? b = some o → b ≠ sc → H b = none := fun {b o} e n => Classical.byContradiction fun z => n (hone b z)
  have dictNone : ∀ {b : Addr} {o : Obj} {es : Array DictEntry} {ep : Nat}, t.heap.get? b = some o → o.data = .dict es ep → H b = none := fun {b o es ep} e d => by
    refine other e fun z => ?_
    rw [z, hsc] at e
    cases e
    cases (show Data.seq its.toArray _ = Data.dict es ep from d)
  have hidNs : ∀ {b : Addr} {m : Str → Option Value}, t.heap.Ns b m → (hidT t.heap H).Ns b m := fun {b m} h => by
    obtain ⟨o, es, ep, e, d, r⟩ := h
    exact ⟨o, es, ep, hidT_get e (dictNone e d), d, r⟩
  have hidK : Kt.In (hidT t.heap H) := fun b o e => by
    refine hidT_get (kin b o e) (Classical.byContradiction fun z => ?_)
    have eb := hone b z
    subst eb
    rw [hfree z] at e
    cases e
  obtain ⟨mc, nc1, nc2⟩ := nol
  have hMod : Mod Kt gl (hidT t.heap H) := ⟨hidK, hidNs hns, ⟨mb, hidNs hbn, hbt⟩, ⟨mc, hidNs nc1, nc2⟩⟩
  have env0 : Env0 Pg wd Kt gl (hidT t.heap H) callerA [] t H := by
    refine ⟨rfl, hMod, fun b o e => of_hidT e, Nat.le_of_eq (hidT_size _ _), trivial, fun b hb => ?_, hok, .of_eq hgen⟩
    cases (show b ∈ ([] : List Addr) from hb)
  have run := (G _ hidK (hidNs hns)).goes callerA [] t H ⟨[.ref sc], []⟩ [.ref sc] [.ref sc] _ _ rfl hr env0 (hbind t (.ref sc)) (.cons rfl .nil) hsp
  apply codeAny_mono run
  intro r t2 h
  match r, h with
  | .error e, h => exact (hCX e t2 h).elim
  | .ok .next, h => exact h.elim
  | .ok .brk, h => exact h.elim
  | .ok .cont, h => exact h.elim
  | .ok (.ret u), ⟨v, H', os, bare, un, hok', rv, q⟩ =>
    have qv : v = .bl true := q
    subst qv
    have qu : u = Value.bool true := rv
    subst qu
    refine ⟨rfl, OldK.of_keep fun b o e => ?_, os, bare⟩
    rcases hO b with z | ⟨ob, xs, z⟩
    · exact un.keep b o e z (fun y => by cases (show b ∈ ([] : List Addr) from y)) (by simp)
    · obtain ⟨e1, _⟩ := hok b _ z
      obtain ⟨e2, _⟩ := hok' b _ (un.frzs b ob _ z)
      rw [e1] at e
      cases e
      exact e2
theorem topG (kin : Kt.In t.heap) (hns : t.heap.Ns mainGlobals gl) (hbn : t.heap.Ns builtinsNs mb) (hbt : ∀ y : Str, y ≠ "__name__" → mb y = bootBuiltins y) (nol : t.heap.NoLimit) (hgen : t.gens = #[])
    (hsc : t.heap.get? sc = some { cls := .type "list", data := .seq its.toArray }) (hi : IntsAre its ns) (hl : ns.length ≤ sizeLine) (hr : Room lv callerA)
    (G : ∀ bs : Heap, Kt.In bs → bs.Ns mainGlobals gl → FnG Pg wd Kt gl bs CX lv fa fd [x] sp) (hbind : ∀ (t : Shared) (u : Value), BindsTo t fd ⟨[u], []⟩ [(x, u)])
    (hsp : ∀ H : Hp, Only H → SqL Kt H sc (ns.map V.int) → sp [.ref sc] H (fun v _ => v = .bl true) fun _ _ _ => False) (hCX : ∀ H e t2, CX [] H t (fun _ _ _ => False) e t2 → False) :
    codeAny (model Pg wd) callerA (.call (.ref fa) ⟨[.ref sc], []⟩) (fun r t2 => r = .ok (.ret (.bool true)) ∧ OldK t.heap t2.heap ∧ t2.os = t.os ∧ AllBare t2.gens) t := by
  have rl := vals_ints hi
  have ln := hi.length
  by_cases hk : Kt.lookup sc = none
  · let H : Hp := fun b => if b = sc then some (.frz { cls := .type "list", data := .seq its.toArray } (.lst (ns.map V.int))) else none
    have at0 : H sc = some (.frz { cls := .type "list", data := .seq its.toArray } (.lst (ns.map V.int))) := if_pos rfl
    have off : ∀ {b : Addr}, b ≠ sc → H b = none := fun h => if_neg h
    have only : Only H := fun b => by
      by_cases e : b = sc
      · rw [e]
        exact .inr ⟨_, _, at0⟩
      · exact .inl (off e)
    refine topG_at H kin hns hbn hbt nol hgen hsc hr G hbind (hsp H only (.inl (.inr ⟨_, at0⟩))) (hCX H) only (fun b u z => ?_) (fun b z => Classical.byContradiction fun e => z (off e)) fun _ => hk
    by_cases e : b = sc
    · subst e
      rw [at0] at z
      cases z
      exact ⟨hsc, by rw [List.length_map]; exact hl, its, _, rl, hsc⟩
    · rw [off e] at z
      cases z
  · obtain ⟨o, ho⟩ := Option.ne_none_iff_exists'.mp hk
    have e := kin sc o ho
    rw [hsc] at e
    cases e
    let H : Hp := fun _ => none
    have only : Only H := fun _ => .inl rfl
    have isS : SqL Kt H sc (ns.map V.int) := .inr ⟨_, its.toArray, _, ho, rfl, rfl, rfl, by rw [List.size_toArray, ln]; exact hl, by simpa using rl⟩
    exact topG_at H kin hns hbn hbt nol hgen hsc hr G hbind (hsp H only isS) (hCX H) only (fun b u z => by cases (show (none : Option HO) = some u from z)) (fun b z => absurd rfl z) fun z => absurd rfl z
/-- a law, by its def's promise -/
theorem walkG_ofE {l : PySem.W.OpenLaw} {n : Nat} {q : Program} {loose : List Str} {XP : (Str → Option Value) → Heap → Prop} {YP : World → Heap → Prop} {d : DefRec} (hn : l.most = some n) (hn2 : n ≤ sizeLine) (hdf : d.params.defaults = []) (hr : Room lv callerA)
    (F : ∀ (wd : World) (gl : Str → Option Value) (fa : Addr) (h : Heap), YP wd h → h.Ns mainGlobals gl → gl d.name = some (.ref fa) →
      ∃ (Kt : PySem.W.Frag) (fd : FuncData) (sp : Sp), Kt.In h ∧ (∀ (t : Shared) (u : Value), BindsTo t fd ⟨[u], []⟩ [(x, u)]) ∧ (∀ (H : Hp) (a : Addr) (ns : List Int), ns.length ≤ n → Only H → SqL Kt H a (ns.map V.int) → sp [.ref a] H (fun v _ => v = .bl true) fun _ _ _ => False) ∧
        ∀ bs : Heap, Kt.In bs → bs.Ns mainGlobals gl → FnG l.prog wd Kt gl bs CX lv fa fd [x] sp)
    (hCX : ∀ (H : Hp) (t : Shared) (e : Value) (t2 : Shared), CX [] H t (fun _ _ _ => False) e t2 → False) : PySem.W.WalkO q loose XP YP l.row.toRowW d [] (fun f vs => PySem.call f vs) := by
  apply Att.attach_call hn hdf
  intro wd t0 t gl mb fa o pm cd doc a its ns G Y ho hd hcd hgl hobj hints hlen hgen
  obtain ⟨Kt, fd, sp, kin, hb, hsp, hF⟩ := F wd gl fa _ Y G.T.g hgl
  exact topG kin G.T.g G.T.b G.T.builtins G.T.nolimit hgen hobj hints (Nat.le_trans hlen hn2) hr hF hb (fun H hO hS => hsp H a ns hlen hO hS) fun H e t2 => hCX H t e t2
end
end Dn

namespace Dn
open PySem PySem.Spec PyProof.Rows L2

/-! ### what a def promises, over data -/
/-- a new list at v, behind a run from H to H' -/
def RN (k : Kx) (M : Addr → Prop) (H H' : Hp) (d : D) (v : V) : Prop := ∃ ds q vs, d = .lst ds ∧ v = .ref q ∧ H q = none ∧ H' q = some (.lst vs) ∧ IsDs k (era H' q) M ds vs
def PFn (k : Kx) (nw : Bool) (M : Addr → Prop) (H : Hp) (Q : VK) (E : XK) (r : R D) : Prop := Out (fun d => ∀ v H', Same H H' → IsD k H' M d v → (nw = true → RN k M H H' d v) → Q v H') (fun x _ => ∀ cls xd H', Same H H' → ExR k M x cls xd H' → E cls xd H') r
/-- a def: plain data in, plain data out; nw: what it gives is a new list -/
def spP (k : Kx) (n : Nat) (nw : Bool) (F : List D → R D) : Sp := fun vs H Q E => ∃ (M : Addr → Prop) (ds : List D), vs.length = n ∧ IsDs k H M ds vs ∧ (∀ a, M a → ∃ o, H a = some o) ∧ PFn k nw M H Q E (F ds)
/-- one that changes its first argument, a list -/
def PIn (k : Kx) (nw : Bool) (M : Addr → Prop) (a : Addr) (H : Hp) (Q : VK) (r : R (D × D)) : Prop :=
  Out (fun p => ∀ v H', Ext (fun b => b = a) H H' → OwnD k H' M p.2 a → IsD k H' M p.1 v → (nw = true → RN k M H H' p.1 v ∧ ∀ q, v = .ref q → OwnD k (era H' q) M p.2 a) → Q v H') (fun _ _ => False) r
def spI (k : Kx) (n : Nat) (nw : Bool) (F : D → List D → R (D × D)) : Sp := fun vs H Q E => ∃ (M : Addr → Prop) (a : Addr) (d0 : D) (ds : List D) (vr : List V), vs = .ref a :: vr ∧ vs.length = n ∧ M a ∧ OwnD k H M d0 a ∧ IsDs k H M ds vr ∧ (∀ b, M b → ∃ o, H b = some o) ∧
  PIn k nw M a H Q (F d0 ds)
def startL (N : Nat) (ds : List D) : Lc := ds.map some ++ List.replicate (N - ds.length) none
def runB (N : Nat) (nw : Bool) (fb : MS) (ds : List D) : R D := match fb (startL N ds) with
  | .ok (.rt d, _) => .ok d
  | .ok (.nx, _) => if nw then .bad else .ok .non
  | .exc x _ => .exc x []
  | _ => .bad
def runI (N : Nat) (nw : Bool) (fb : MS) (d0 : D) (ds : List D) : R (D × D) := match fb (startL N (d0 :: ds)) with
  | .ok (.rt d, e) => match e[0]? with
    | some (some d1) => .ok (d, d1)
    | _ => .bad
  | .ok (.nx, e) => match e[0]? with
    | some (some d1) => if nw then .bad else .ok (.non, d1)
    | _ => .bad
  | _ => .bad
section
variable {k : Kx} {M : Addr → Prop} {H : Hp} {N : Nat} {ds : List D} {vs : List V} {fb : MS} {own : List Nat} {W : WX} {nw : Bool}
theorem startL_get (i : Nat) : (startL N ds)[i]? = if i < ds.length then (ds[i]?).map some else if i < ds.length + (N - ds.length) then some none else none := by
  unfold startL
  by_cases h : i < ds.length
  · rw [if_pos h, List.getElem?_append_left (by rw [List.length_map]; exact h), List.getElem?_map]
  · rw [if_neg h, List.getElem?_append_right (by rw [List.length_map]; omega), List.length_map, List.getElem?_replicate]
    by_cases h2 : i < ds.length + (N - ds.length)
    · rw [if_pos h2, if_pos (by omega)]
    · rw [if_neg h2, if_neg (by omega)]
theorem start_get {Ns : List Str} (i : Nat) : (L2.start Ns vs)[i]? = if i < vs.length then (vs[i]?).map some else if i < vs.length + (Ns.length - vs.length) then some none else none := by
  unfold L2.start
  by_cases h : i < vs.length
  · rw [if_pos h, List.getElem?_append_left (by rw [List.length_map]; exact h), List.getElem?_map]
  · rw [if_neg h, List.getElem?_append_right (by rw [List.length_map]; omega), List.length_map, List.getElem?_replicate]
    by_cases h2 : i < vs.length + (Ns.length - vs.length)
    · rw [if_pos h2, if_pos (by omega)]
    · rw [if_neg h2, if_neg (by omega)]
theorem sr_start {Ns : List Str} (hN : Ns.length = N) (hl : vs.length = ds.length) (ho : ∀ i ∈ own, ds.length ≤ i) (i1 : IsDs k H M ds vs) (al : ∀ a, M a → ∃ o, H a = some o) : SR ⟨k, own, none, M, H, W, nw⟩ (startL N ds) (L2.start Ns vs) H := by
  have no : ∀ i (v : V), i ∈ own → (L2.start Ns vs)[i]? ≠ some (some v) := fun i v hi h => by
    rw [start_get, if_neg (by have := ho i hi; omega)] at h
    split at h <;> cases h
  have mo : ∀ a, MO ⟨k, own, none, M, H, W, nw⟩ (L2.start Ns vs) a → M a := fun a z => by
    rcases z with z | ⟨i, hi, z⟩
    · exact z
    · exact absurd z (no i _ hi)
  refine ⟨?_, fun i d hi he => ?_, fun i d hi he => ?_, fun i j a hi hj h1 h2 => absurd h1 (no i _ hi), fun i a hi h => absurd h (no i _ hi), fun a o h _ => h, al, fun i a hi h => absurd h (no i _ hi), fun i a hi h => absurd h (no i _ hi), fun a h => (by cases h), fun a h => (by cases h)⟩
  · unfold startL L2.start
    rw [List.length_append, List.length_append, List.length_map, List.length_map, List.length_replicate, List.length_replicate, hl, hN]
  · rw [startL_get] at he
    by_cases h : i < ds.length
    · rw [if_pos h] at he
      cases e0 : ds[i]? with
      | none =>
        rw [e0] at he
        cases he
      | some d0 =>
        rw [e0] at he
        cases he
        obtain ⟨v, h1, h2⟩ := i1.get e0
        refine ⟨v, ?_, h2.mono mo⟩
        rw [start_get, if_pos (by omega), h1]
        rfl
    · rw [if_neg h] at he
      split at he <;> cases he
  · rw [startL_get, if_neg (by have := ho i hi; omega)] at he
    split at he <;> cases he
/-- a def's body keeps the promise -/
theorem body_P {Ns : List Str} {Q : VK} {E : XK} (hN : Ns.length = N) (hl : vs.length = ds.length) (ho : ∀ i ∈ own, ds.length ≤ i) (i1 : IsDs k H M ds vs) (al : ∀ a, M a → ∃ o, H a = some o) (h : PFn k nw M H Q E (runB N nw fb ds)) :
    tS ⟨k, own, none, M, H, fun cls d _ H' => E cls d H', nw⟩ fb { nx := fun _ H' => Q .non H', rt := Q } (L2.start Ns vs) H := by
  refine ⟨startL N ds, sr_start hN hl ho i1 al, ?_⟩
  have same : ∀ {e : Lc} {H' : Hp}, SE ⟨k, own, none, M, H, fun cls d _ H' => E cls d H', nw⟩ e H' → Same H H' := fun s a o q => s.ext a o q (.inl fun z => by cases z)
  unfold runB at h
  cases e0 : fb (startL N ds) with
  | bad =>
    rw [e0] at h
    exact h.elim
  | exc x e =>
    rw [e0] at h
    exact fun cls xd σ' H' _ s' r => (h cls xd H' (same s'.se) ⟨r.1, r.2.imp id fun ⟨d, fs, a, b, c⟩ => ⟨d, fs, a, b, c.mono fun _ z => .inl z⟩⟩)
  | ok p =>
    rw [e0] at h
    obtain ⟨fl, e⟩ := p
    cases fl with
    | nx =>
      cases nw with
      | true => exact h.elim
      | false => exact fun σ' H' _ s' => h .non H' (same s'.se) rfl fun z => by cases z
    | rt d =>
      exact fun v H' s' iv nn => h v H' (same s') iv fun z => by
        obtain ⟨ds', q, vs', h1, h2, h3, h4, h5, _⟩ := nn z
        exact ⟨ds', q, vs', h1, h2, h3, h4, h5⟩
    | bk => exact h.elim
    | ct => exact h.elim
theorem sr_startI {Ns : List Str} {a : Addr} {d0 : D} {vr : List V} (hN : Ns.length = N) (hN1 : 1 ≤ N) (hl : vr.length = ds.length) (ho : ∀ i ∈ own, i = 0 ∨ ds.length + 1 ≤ i) (h0 : 0 ∈ own) (hM : M a) (od : OwnD k H M d0 a) (i1 : IsDs k H M ds vr) (al : ∀ a, M a → ∃ o, H a = some o) : SR ⟨k, own, some a, M, H, W, nw⟩ (startL N (d0 :: ds)) (L2.start Ns (.ref a :: vr)) H := by
  have hz : (L2.start Ns (V.ref a :: vr))[0]? = some (some (.ref a)) := rfl
  have no : ∀ i (v : V), i ∈ own → (L2.start Ns (V.ref a :: vr))[i]? = some (some v) → i = 0 ∧ v = .ref a := fun i v hi h => by
    rcases ho i hi with z | z
    · subst z
      rw [hz] at h
      cases h
      exact ⟨rfl, rfl⟩
    · rw [start_get, if_neg (by rw [List.length_cons]; omega)] at h
      split at h <;> cases h
  have mo : ∀ b, MO ⟨k, own, some a, M, H, W, nw⟩ (L2.start Ns (V.ref a :: vr)) b → M b := fun b z => by
    rcases z with z | ⟨i, hi, z⟩
    · exact z
    · obtain ⟨_, e⟩ := no i _ hi z
      cases e
      exact hM
  refine ⟨?_, fun i d hi he => ?_, fun i d hi he => ?_, fun i j b hi hj h1 h2 => ((no i _ hi h1).1).trans ((no j _ hj h2).1).symm, fun i b hi h => .inr ?_, fun b o h _ => h, al, fun i b hi h => .inr ?_, fun i b hi h => ?_, fun b h => ?_, fun b h => ?_⟩
  · unfold startL L2.start
    rw [List.length_append, List.length_append, List.length_map, List.length_map, List.length_replicate, List.length_replicate, List.length_cons, List.length_cons, hl, hN]
  · rw [startL_get] at he
    have hi0 : i ≠ 0 := fun z => hi (by rw [z]; exact h0)
    obtain ⟨j, rfl⟩ : ∃ j, i = j + 1 := ⟨i - 1, by omega⟩
    by_cases h : j + 1 < (d0 :: ds).length
    · rw [if_pos h] at he
      rw [List.getElem?_cons_succ] at he
      cases e0 : ds[j]? with
      | none =>
        rw [e0] at he
        cases he
      | some d1 =>
        rw [e0] at he
        cases he
        obtain ⟨v, h1, h2⟩ := i1.get e0
        refine ⟨v, ?_, h2.mono mo⟩
        rw [start_get, if_pos (by rw [List.length_cons] at h ⊢; omega), List.getElem?_cons_succ, h1]
        rfl
    · rw [if_neg h] at he
      split at he <;> cases he
  · rcases ho i hi with z | z
    · subst z
      have e1 : d = d0 := by
        have e2 : (startL N (d0 :: ds))[0]? = some (some d0) := rfl
        rw [e2] at he
        cases he
        rfl
      subst e1
      exact ⟨a, hz, OwnD.step (Ext.refl _ _) (fun b z => .inl (mo b z)) od fun _ q => q⟩
    · rw [startL_get, if_neg (by rw [List.length_cons]; omega)] at he
      split at he <;> cases he
  · exact congrArg some (V.ref.inj (no i _ hi h).2).symm
  · exact congrArg some (V.ref.inj (no i _ hi h).2).symm
  · obtain ⟨_, e⟩ := no i _ hi h
    cases e
    exact al _ hM
  · cases h
    exact hz
  · cases h
    exact al a hM
theorem body_I {Ns : List Str} {Q : VK} {E : XK} {a : Addr} {d0 : D} {vr : List V} (hN : Ns.length = N) (hN1 : 1 ≤ N) (hl : vr.length = ds.length) (ho : ∀ i ∈ own, i = 0 ∨ ds.length + 1 ≤ i) (h0 : 0 ∈ own) (hM : M a) (od : OwnD k H M d0 a) (i1 : IsDs k H M ds vr) (al : ∀ a, M a → ∃ o, H a = some o)
    (h : PIn k nw M a H Q (runI N nw fb d0 ds)) :
    tS ⟨k, own, some a, M, H, fun _ _ _ _ => False, nw⟩ fb { nx := fun _ H' => Q .non H', rt := Q } (L2.start Ns (.ref a :: vr)) H := by
  refine ⟨startL N (d0 :: ds), sr_startI hN hN1 hl ho h0 hM od i1 al, ?_⟩
  have ext : ∀ {e : Lc} {H' : Hp}, SE ⟨k, own, some a, M, H, fun _ _ _ _ => False, nw⟩ e H' → Ext (fun b => b = a) H H' := fun s b o q n => s.ext b o q (n.imp (fun n z => n (Option.some.inj z).symm) id)
  have own' : ∀ {e : Lc} {H' : Hp} {d1 : D}, SE ⟨k, own, some a, M, H, fun _ _ _ _ => False, nw⟩ e H' → e[0]? = some (some d1) → OwnD k H' M d1 a := fun {e H' d1} s q => s.own0 a rfl d1 q h0
  unfold runI at h
  cases e0 : fb (startL N (d0 :: ds)) with
  | bad =>
    rw [e0] at h
    exact h.elim
  | exc x e =>
    rw [e0] at h
    exact h.elim
  | ok p =>
    rw [e0] at h
    obtain ⟨fl, e⟩ := p
    cases fl with
    | nx =>
      dsimp only at h
      split at h
      · rename_i d1 q
        cases nw with
        | true => exact h.elim
        | false => exact fun σ' H' _ s' => h .non H' (ext s'.se) (own' s'.se q) rfl fun z => by cases z
      · exact h.elim
    | rt d =>
      dsimp only at h
      split at h
      · rename_i d1 q
        exact fun v H' s' iv nn => h v H' (ext s') (own' s' q) iv fun z => by
          obtain ⟨ds', q', vs', h1, h2, h3, h4, h5, h6⟩ := nn z
          exact ⟨⟨ds', q', vs', h1, h2, h3, h4, h5⟩, fun q2 e2 => by
            rw [h2] at e2
            cases e2
            exact h6 a rfl d1 q h0⟩
      · exact h.elim
    | bk => exact h.elim
    | ct => exact h.elim
end

/-! ### calls -/
def calM (F : List D → R D) (dd : List D) (fa : MD (List D)) : MD D := fun e => (fa e).bind fun p => (F (p.1 ++ dd)).at p.2
/-- keywords: g puts the positional data and the keywords' in order -/
def calK (F : List D → R D) (g : List D → List D → List D) (fa fk : MD (List D)) : MD D := fun e => (fa e).bind fun p => (fk p.2).bind fun q => (F (g p.1 q.1)).at q.2
def calI (F : D → List D → R (D × D)) (i : Nat) (fa : MD (List D)) : MD D := fun e => match e[i]? with
  | some (some _) => (fa e).bind fun p => match p.2[i]? with
    | some (some d0) => (noX (F d0 p.1)).bind fun r => .ok (r.1, p.2.set i (some r.2))
    | _ => .bad
  | _ => .bad
section
variable {X : Cx} {C : Ct} {CX : CXT} {lv n : Nat} {nw : Bool} {fa0 : Addr} {fd : FuncData} {ps ks : List Str} {x y : Str} {p pos px : Pos} {a : Expr} {es : List Expr} {kws : List Keyword}
/-- what a callee lets out is taken here -/
def PX (CX : CXT) (X : Cx) (C : Ct) : Prop := ∀ σ, PassesAt CX X σ (fun cls d H => C.W cls d σ H)
theorem px0 : PX CX0 X C := fun σ _ _ _ _ _ _ h => h.elim
/-- values that are data in every heap -/
def Cst (k : Kx) (dd : List D) (dv : List V) : Prop := ∀ H M, IsDs k H M dd dv
theorem je_call {F : List D → R D} {dd : List D} {dv : List V} {dvs : List Value} {fa : MD (List D)} (G : FnAt X CX fa0 fd ps (spP C.k n nw F)) (hg : Gl X x) (hm : X.mg x = some (.ref fa0)) (hk : PySem.W.keepIn X.K (.ref fa0) = true)
    (hb : Binds X.K fd ps dvs) (hd : Vals dv dvs) (hc : Cst C.k dd dv) (hx : PX CX X C) (hl : (a :: es).length + dd.length = n) (hlen : ∀ e r, fa e = .ok r → r.1.length = (a :: es).length) (ha : PA X (a :: es) (tA C fa)) (hdb : (x == ("__debug__" : Str)) = false := by decide)
    (he : starEach (a :: es) X.env = (false, eval a X.env) :: starEach es X.env := by rfl) (hpl : (backTo pos (starEach es X.env)).any (·.1) = false := by rfl) : PE X (.Call (.Name x p) (a :: es) [] pos) (tE C (calM F dd fa)) := by
  refine PE.imp (pe_at G hg hm hk hb hd hx ha hdb he hpl) fun σ H Q ⟨e, s, o⟩ => ⟨e, s, ?_⟩
  have o1 := Out.bind o
  cases e0 : fa e with
  | bad =>
    rw [e0] at o1
    exact o1.elim
  | exc z l =>
    rw [e0] at o1
    exact o1
  | ok q =>
    rw [e0] at o1
    intro vs H1 x1 s1 i1
    have hq := hlen e q e0
    refine ⟨MO C σ, q.1 ++ dd, ?_, i1.app (hc H1 _), fun b z => s1.mod z, ?_⟩
    · rw [List.length_append, i1.length, hq, (hc H1 fun _ => False).length]
      exact hl
    · have o2 : Out (PO1 C σ H Q) (XO C σ H) ((F (q.1 ++ dd)).at q.2) := o1
      cases e1 : F (q.1 ++ dd) with
      | bad =>
        rw [e1] at o2
        exact o2.elim
      | exc z l =>
        rw [e1] at o2
        exact fun cls xd H2 k2 r => o2 cls xd H2 (x1.trans (same_ext k2)) (s1.same k2) r
      | ok d =>
        rw [e1] at o2
        exact fun v H2 k2 iv _ => o2 v H2 (x1.trans (same_ext k2)) (s1.same k2) iv
theorem SR.io {e : Lc} {σ : L2.St} {H H' : Hp} (s : SR C e σ H) {i : Nat} (hi : i ∈ C.own) {b : Addr} {d d' : D} (ha : σ[i]? = some (some (.ref b))) (h0 : OwnD C.k H (MO C σ) d b) (x : Ext (fun c => c = b) H H') (od : OwnD C.k H' (MO C σ) d' b) : SR C (e.set i (some d')) σ H' ∧ Ext (OW C σ) H H' := by
  have hmb : OW C σ b := ⟨i, hi, ha⟩
  have nf : ∀ o, H b = some o → ¬ Fx o := fun o h f => by
    cases d with
    | lst ds =>
      obtain ⟨vs, h1, _⟩ := h0
      rw [h] at h1
      cases h1
      exact f
    | dct ks ds =>
      obtain ⟨vs, h1, _⟩ := h0
      rw [h] at h1
      cases h1
      exact f
    | _ => exact h0.elim
  have there : ∃ o, H' b = some o := by
    cases d' with
    | lst ds =>
      obtain ⟨vs, h1, _⟩ := od
      exact ⟨_, h1⟩
    | dct ks ds =>
      obtain ⟨vs, h1, _⟩ := od
      exact ⟨_, h1⟩
    | _ => exact od.elim
  have kn : ∀ c u, c ≠ b → H c = some u → H' c = some u := fun c u hc q => x c u q (.inl hc)
  have kp : ∀ c u, H c = some u → ∃ u', H' c = some u' := fun c u q => by
    by_cases hc : c = b
    · rw [hc]
      exact there
    · exact ⟨u, kn c u hc q⟩
  have xx : Ext (OW C σ) H H' := fun c u q n => by
    have hc : c ≠ b := fun z => by
      subst z
      rcases n with n | n
      · exact n hmb
      · exact nf u q n
    exact kn c u hc q
  refine ⟨⟨by rw [List.length_set]; exact s.len, fun j d1 hj he => ?_, fun j d1 hj he => ?_, s.dist, s.fr, fun c u q n => ?_, fun c h => (s.al c h).elim fun u q => kp c u q, s.nm, fun j c hj h => (s.alo j c hj h).elim fun u q => kp c u q, s.p0, fun c h => (s.pm c h).elim fun u q => kp c u q⟩, xx⟩
  · have hji : i ≠ j := fun z => hj (by rw [← z]; exact hi)
    rw [List.getElem?_set_ne hji] at he
    obtain ⟨v, h1, h2⟩ := s.val j d1 hj he
    exact ⟨v, h1, IsD.step xx.mo (fun _ z => .inl z) _ _ h2⟩
  · by_cases hji : i = j
    · subst hji
      have hl : i < e.length := by
        have := (List.getElem?_eq_some_iff.mp he).1
        rwa [List.length_set] at this
      rw [List.getElem?_set_self hl] at he
      cases he
      exact ⟨b, ha, od⟩
    · rw [List.getElem?_set_ne hji] at he
      obtain ⟨c, h1, h2⟩ := s.ow j d1 hj he
      have hc : c ≠ b := fun z => hji (s.dist i j b hi hj ha (by rw [← z]; exact h1))
      exact ⟨c, h1, OwnD.step xx.mo (fun _ z => .inl z) h2 fun u q => kn c u hc q⟩
  · have h1 := s.ext c u q n
    by_cases hc : c = b
    · subst hc
      rcases n with n | n
      · rcases s.fr i c hi ha with z | z
        · rw [z] at q
          cases q
        · exact absurd z n
      · exact absurd n (nf u h1)
    · exact kn c u hc h1
end
end Dn

namespace Dn
open PySem PySem.Spec PyProof.Rows L2
section
variable {X : Cx} {C : Ct} {CX : CXT} {lv n m : Nat} {nw : Bool} {fa0 : Addr} {fd : FuncData} {ps ks : List Str} {x y : Str} {p pos px : Pos} {a : Expr} {es : List Expr} {kws : List Keyword}
/-- f(x, e, ..): x a list of one's own, changed by f -/
theorem je_callI {i : Nat} {F : D → List D → R (D × D)} {fa : MD (List D)} (G : FnAt X CX0 fa0 fd ps (spI C.k n nw F)) (hg : Gl X x) (hm : X.mg x = some (.ref fa0)) (hk : PySem.W.keepIn X.K (.ref fa0) = true)
    (hb : Binds X.K fd ps []) (hl : es.length + 1 = n) (hlen : ∀ e r, fa e = .ok r → r.1.length = es.length) (ho : i ∈ C.own) (hN : X.N[i]? = some y) (hv : Vis X.env.scope y) (ha : PA X es (tA C fa)) (hdb : (x == ("__debug__" : Str)) = false := by decide)
    (hd : (y == ("__debug__" : Str)) = false := by decide) (hcd : (y == ("__classdict__" : Str)) = false := by decide)
    (he : starEach (.Name y px :: es) X.env = (false, eval (.Name y px) X.env) :: starEach es X.env := by rfl) (hpl : (backTo pos (starEach es X.env)).any (·.1) = false := by rfl) : PE X (.Call (.Name x p) (.Name y px :: es) [] pos) (tE C (calI F i fa)) := by
  refine PE.imp (pe_at (E := fun _ _ _ _ => False) G hg hm hk hb .nil (fun σ _ _ _ _ _ _ h => h.elim) (pa_cons (pe_var hN hv hd hcd) ha he) hdb he hpl) fun σ H Q ⟨e, s, o⟩ => ?_
  unfold calI at o
  split at o
  · rename_i d00 h00
    obtain ⟨b, h1, h2⟩ := s.ow i _ ho h00
    refine ⟨.ref b, h1, e, s, ?_⟩
    have o1 := Out.bind o
    cases e0 : fa e with
    | bad =>
      rw [e0] at o1
      exact o1.elim
    | exc z l =>
      rw [e0] at o1
      exact o1
    | ok q =>
      rw [e0] at o1
      intro vs H1 x1 s1 i1
      have hq := hlen e q e0
      have o2 : Out (PO1 C σ H Q) (XO C σ H) (match q.2[i]? with
        | some (some d0) => (noX (F d0 q.1)).bind fun r => .ok (r.1, q.2.set i (some r.2))
        | _ => .bad) := o1
      split at o2
      · rename_i d0 hd0
        obtain ⟨b', h3, h4⟩ := s1.ow i _ ho hd0
        have eb : b' = b := by
          rw [h1] at h3
          cases h3
          rfl
        subst eb
        refine ⟨MO C σ, b', d0, q.1, vs, by rw [List.append_nil], ?_, .inr ⟨i, ho, h1⟩, h4, i1, fun c z => s1.mod z, ?_⟩
        · rw [List.append_nil, List.length_cons, i1.length, hq]
          exact hl
        · refine (noX_bind (E' := fun _ _ => False) o2).imp (fun r hr v H2 x2 od iv _ => ?_) fun _ _ z => z
          obtain ⟨s3, x3⟩ := s1.io ho h1 h4 x2 od
          exact hr v H2 (x1.trans x3) s3 iv
      · exact o2.elim
  · exact o.elim
theorem PK.imp {t t' : TA} (h : PK X kws t) (i : ∀ σ H Q, t' σ H Q → t σ H Q) : PK X kws t' := ⟨fun pos pins s σ H Q I hw => h.run pos pins s σ H Q I (i σ H Q hw)⟩
theorem jk_nil : PK X [] (tA C nilA) := PK.imp pk_nil fun σ H Q ⟨e, s, o⟩ => o [] H (Ext.refl _ _) s .nil
theorem jk_cons {f : MD D} {fa : MD (List D)} {nm : Option Str} {kpos : Pos} (ha : PE X a (tE C f)) (hr : PK X kws (tA C fa)) : PK X (⟨nm, a, kpos⟩ :: kws) (tA C (consA f fa)) := by
  refine PK.imp (pk_cons ha hr) fun σ H Q ⟨e, s, o⟩ => ⟨e, s, (Out.bind o).imp (fun p hp => ?_) fun _ _ z => z⟩
  intro v H1 x1 s1 i1
  refine ⟨p.2, s1, (Out.bind hp).imp (fun q hq => ?_) fun _ _ z => z.ext x1⟩
  intro vs H2 x2 s2 i2
  exact hq (v :: vs) H2 (x1.trans x2) s2 (.cons ((Stp.of x2).isD i1) i2)
theorem tE_callK {F : List D → R D} {g : List D → List D → List D} {gV : List V → List V → List V} {fa fk : MD (List D)} (hg : ∀ (k : Kx) H M ds vs es zs, IsDs k H M ds vs → IsDs k H M es zs → IsDs k H M (g ds es) (gV vs zs)) (hl : ∀ ds es, ds.length = m → es.length = ks.length → (g ds es).length = n)
    (hlen : ∀ e r, fa e = .ok r → r.1.length = m) (hlenk : ∀ e r, fk e = .ok r → r.1.length = ks.length) (σ : L2.St) (H : Hp) (Q : VK) (h : tE C (calK F g fa fk) σ H Q) :
    tA C fa σ H fun vs H1 => tA C fk σ H1 fun zs H2 => vs.length = m ∧ zs.length = ks.length ∧ spP C.k n nw F (gV vs zs) H2 Q (fun cls d H => C.W cls d σ H) := by
  obtain ⟨e, s, o⟩ := h
  refine ⟨e, s, ?_⟩
  have o1 := Out.bind o
  cases e0 : fa e with
  | bad =>
    rw [e0] at o1
    exact o1.elim
  | exc z l =>
    rw [e0] at o1
    exact o1
  | ok q =>
    rw [e0] at o1
    intro vs H1 x1 s1 i1
    refine ⟨q.2, s1, ?_⟩
    have o2 := Out.bind (show Out _ _ ((fk q.2).bind _) from o1)
    cases e1 : fk q.2 with
    | bad =>
      rw [e1] at o2
      exact o2.elim
    | exc z l =>
      rw [e1] at o2
      exact XO.ext o2 x1
    | ok r =>
      rw [e1] at o2
      intro zs H2 x2 s2 i2
      have l1 := hlen e q e0
      have l2 := hlenk q.2 r e1
      have i3 := hg C.k H2 (MO C σ) _ _ _ _ ((Stp.of x2).isDs i1) i2
      refine ⟨i1.length.trans l1, i2.length.trans l2, MO C σ, g q.1 r.1, i3.length.trans (hl _ _ l1 l2), i3, fun b z => s2.mod z, ?_⟩
      have o3 : Out (PO1 C σ H Q) (XO C σ H) ((F (g q.1 r.1)).at r.2) := o2
      have x12 := x1.trans x2
      cases e2 : F (g q.1 r.1) with
      | bad =>
        rw [e2] at o3
        exact o3.elim
      | exc z l =>
        rw [e2] at o3
        exact fun cls xd H3 k3 rr => o3 cls xd H3 (x12.trans (same_ext k3)) (s2.same k3) rr
      | ok d =>
        rw [e2] at o3
        exact fun v H3 k3 iv _ => o3 v H3 (x12.trans (same_ext k3)) (s2.same k3) iv
theorem je_callK0 {F : List D → R D} {g : List D → List D → List D} {gV : List V → List V → List V} {gu : List Value → List Value → List Value} {fk : MD (List D)} (G : FnAt X CX fa0 fd ps (spP C.k n nw F)) (hgl : Gl X x) (hm : X.mg x = some (.ref fa0)) (hk : PySem.W.keepIn X.K (.ref fa0) = true) (hb : KBn X.K fd ps 0 ks gu gV)
    (hx : PX CX X C) (hg : ∀ (k : Kx) H M ds vs es zs, IsDs k H M ds vs → IsDs k H M es zs → IsDs k H M (g ds es) (gV vs zs)) (hl : ∀ ds es, ds.length = 0 → es.length = ks.length → (g ds es).length = n) (hlenk : ∀ e r, fk e = .ok r → r.1.length = ks.length)
    (hkw : PK X kws (tA C fk)) (hall : (backToKw pos (keywordEach kws X.env)).all (·.1.isSome) = true := by rfl) (hks : (backToKw pos (keywordEach kws X.env)).filterMap (·.1) = ks := by rfl) (hdb : (x == ("__debug__" : Str)) = false := by decide)
    (hpl : ((backTo pos (starEach [] X.env)).any (·.1) || (backToKw pos (keywordEach kws X.env)).any (·.1.isNone)) = false := by rfl) : PE X (.Call (.Name x p) [] kws pos) (tE C (calK F g nilA fk)) := by
  refine PE.imp (pe_atK0 G hgl hm hk hb hx hkw hall hks hdb hpl) fun σ H Q h => ?_
  obtain ⟨e, s, o⟩ := tE_callK (m := 0) hg hl (fun e r q => by cases q; rfl) hlenk σ H Q h
  have o1 := o [] H (Ext.refl _ _) s .nil
  obtain ⟨e2, s2, o2⟩ := o1
  exact ⟨e2, s2, o2.imp (fun r hr vs H' x' s' i' => (hr vs H' x' s' i').2) fun _ _ z => z⟩
theorem je_callN {F : List D → R D} {g : List D → List D → List D} {gV : List V → List V → List V} {gu : List Value → List Value → List Value} {fa fk : MD (List D)} {E : XK} (G : FnAt X CX fa0 fd ps (spP C.k n nw F)) (hgl : Gl X x) (hm : X.mg x = some (.ref fa0)) (hk : PySem.W.keepIn X.K (.ref fa0) = true) (hb : KBn X.K fd ps m ks gu gV)
    (hx : Passes CX X E) (hE : ∀ cls d σ H, C.W cls d σ H → E cls d H) (hg : ∀ (k : Kx) H M ds vs es zs, IsDs k H M ds vs → IsDs k H M es zs → IsDs k H M (g ds es) (gV vs zs)) (hl : ∀ ds es, ds.length = m → es.length = ks.length → (g ds es).length = n) (hlen : ∀ e r, fa e = .ok r → r.1.length = m) (hlenk : ∀ e r, fk e = .ok r → r.1.length = ks.length)
    (ha : PA X (a :: es) (tA C fa)) (hkw : PK X kws (tA C fk)) (hall : (backToKw pos (keywordEach kws X.env)).all (·.1.isSome) = true := by rfl) (hks : (backToKw pos (keywordEach kws X.env)).filterMap (·.1) = ks := by rfl) (hdb : (x == ("__debug__" : Str)) = false := by decide)
    (he : starEach (a :: es) X.env = (false, eval a X.env) :: starEach es X.env := by rfl)
    (hpl : ((backTo pos (starEach (a :: es) X.env)).any (·.1) || (backToKw pos (keywordEach kws X.env)).any (·.1.isNone)) = false := by rfl) : PE X (.Call (.Name x p) (a :: es) kws pos) (tE C (calK F g fa fk)) := by
  refine PE.imp (pe_atK (E := fun _ => E) G hgl hm hk hb (fun σ pins => hx pins σ) ha hkw hall hks hdb he hpl) fun σ H Q h => ?_
  obtain ⟨e, s, o⟩ := tE_callK (m := m) hg hl hlen hlenk σ H Q h
  refine ⟨e, s, o.imp (fun q hq vs H1 x1 s1 i1 => ?_) fun _ _ z => z⟩
  obtain ⟨e2, s2, o2⟩ := hq vs H1 x1 s1 i1
  refine ⟨e2, s2, o2.imp (fun r hr zs H2 x2 s2 i2 => ?_) fun _ _ z => z⟩
  obtain ⟨l1, l2, M, ds, h1, h2, h3, h4⟩ := hr zs H2 x2 s2 i2
  exact ⟨l1, l2, M, ds, h1, h2, h3, h4.imp (fun _ z => z) fun _ _ z cls xd H' k r => hE _ _ _ _ (z cls xd H' k r)⟩
/-- f() -/
theorem je_call0 {F : List D → R D} {dd : List D} {dv : List V} {dvs : List Value} {E : XK} (G : FnAt X CX fa0 fd ps (spP C.k n nw F)) (hg : Gl X x) (hm : X.mg x = some (.ref fa0)) (hk : PySem.W.keepIn X.K (.ref fa0) = true)
    (hb : Binds X.K fd ps dvs) (hd : Vals dv dvs) (hc : Cst C.k dd dv) (hx : Passes CX X E) (hE : ∀ cls d σ H, C.W cls d σ H → E cls d H) (hl : dd.length = n) (hdb : (x == ("__debug__" : Str)) = false := by decide) : PE X (.Call (.Name x p) [] [] pos) (tE C (calM F dd nilA)) := by
  refine PE.imp (pe_at0 (E := fun _ => E) G hg hm hk hb hd (fun σ pins => hx pins σ) hdb) fun σ H Q ⟨e, s, o⟩ => ?_
  have o2 : Out (PO1 C σ H Q) (XO C σ H) ((F ([] ++ dd)).at e) := o
  refine ⟨MO C σ, [] ++ dd, ?_, by rw [List.nil_append]; exact hc H _, fun b z => s.mod z, ?_⟩
  · show ([] ++ dv).length = n
    rw [List.nil_append, (hc H fun _ => False).length]
    exact hl
  · cases e1 : F ([] ++ dd) with
    | bad =>
      rw [e1] at o2
      exact o2.elim
    | exc z l =>
      rw [e1] at o2
      exact fun cls xd H2 k2 r => hE _ _ _ _ (o2 cls xd H2 (same_ext k2) (s.same k2) r)
    | ok d =>
      rw [e1] at o2
      exact fun v H2 k2 iv _ => o2 v H2 (same_ext k2) (s.same k2) iv
theorem nilA_len (e : Lc) (r : List D × Lc) (h : nilA e = .ok r) : r.1.length = 0 := by
  cases h
  rfl
theorem consA_len {f : MD D} {fa : MD (List D)} {k : Nat} (h : ∀ e r, fa e = .ok r → r.1.length = k) (e : Lc) (r : List D × Lc) (q : consA f fa e = .ok r) : r.1.length = k + 1 := by
  unfold consA at q
  cases e0 : f e with
  | bad => rw [e0] at q; cases q
  | exc z l => rw [e0] at q; cases q
  | ok p =>
    rw [e0] at q
    dsimp only [R.bind_ok] at q
    cases e1 : fa p.2 with
    | bad => rw [e1] at q; cases q
    | exc z l => rw [e1] at q; cases q
    | ok r' =>
      rw [e1] at q
      cases q
      exact congrArg Nat.succ (h _ _ e1)
end
end Dn

namespace Dn
open PySem PySem.Spec PyProof.Rows L2
section
variable {X : Cx} {C : Ct} {a b : Expr} {es : List Expr} {pos p p2 px : Pos} {f g : MD D} {fa : MD (List D)} {i : Nat} {x y : Str}

/-! ### isinstance -/
theorem isiD_nx (F : D → Option Bool) (d : D) (z : Ex) (l : Lc) : isiD F d ≠ .exc z l := by
  unfold isiD
  split <;> simp
theorem je_isi {T : String} {F : D → Option Bool} {T' : Str} (ok : IsiOk T F) (hK : C.k.K = X.K) (hg : Gl X "isinstance") (hm : X.mg "isinstance" = none) (hgT : Gl X T') (hmT : X.mg T' = none) (hvT : bootBuiltins T' = some (.type T)) (ha : PE X a (tE C f))
    (hn : T' ≠ "__name__" := by decide) (hdb : (T' == ("__debug__" : Str)) = false := by decide)
    (he : starEach [a, .Name T' p2] X.env = (false, eval a X.env) :: starEach [.Name T' p2] X.env := by rfl) (he2 : starEach [.Name T' p2] X.env = (false, eval (.Name T' p2) X.env) :: starEach [] X.env := by rfl)
    (hpl : (backTo pos (starEach [.Name T' p2] X.env)).any (·.1) = false := by rfl) : PE X (.Call (.Name "isinstance" p) [a, .Name T' p2] [] pos) (tE C (un1 (isiD F) f)) := by
  refine PE.imp (pe_callB call_isi hg hm PyProof.Rows.boot_isinstance (pa_cons ha (pa_cons (pe_bltn (v := .ty T) hgT hmT hvT rfl hn hdb) pa_nil he2) he) (by decide) (by decide) he hpl) fun σ H Q ⟨e, s, o⟩ => ⟨e, s, (Out.bind o).imp (fun q hq => ?_) fun _ _ z => z⟩
  intro v H1 x1 s1 i1
  cases e0 : F q.1 with
  | none =>
    have : isiD F q.1 = .bad := by unfold isiD; rw [e0]
    rw [this] at hq
    exact hq.elim
  | some r =>
    have : isiD F q.1 = .ok (.bl r) := by unfold isiD; rw [e0]
    rw [this] at hq
    obtain ⟨t, h1, h2⟩ := ok _ _ _ _ _ _ i1 e0
    rw [hK] at h1 h2
    exact ⟨v, .ty T, t, .type T, r, rfl, .ty T, h1, h2, hq _ H1 x1 s1 rfl⟩

/-! ### a list of one's own as an operand -/
def bin2L (op : D → D → R D) (i : Nat) (g : MD D) : MD D := fun e => match e[i]? with
  | some (some _) => (g e).bind fun q => match q.2[i]? with
    | some (some d) => (op d q.1).at q.2
    | _ => .bad
  | _ => .bad
def bin2R (op : D → D → R D) (f : MD D) (i : Nat) : MD D := fun e => (f e).bind fun p => match p.2[i]? with
  | some (some d) => (op p.1 d).at p.2
  | _ => .bad
theorem tE_binL {r : R2} {op : D → D → R D} (hi : i ∈ C.own) (ho : OpD C r op) (nx : ∀ a b y l, op a b ≠ .exc y l) (σ : L2.St) (H : Hp) (Q : VK) (h : tE C (bin2L op i g) σ H Q) : tOp r (tVar i) (tE C g) σ H Q := by
  obtain ⟨e, s, o⟩ := h
  unfold bin2L at o
  split at o
  · rename_i d0 h0
    obtain ⟨b, h1, h2⟩ := s.ow i d0 hi h0
    refine ⟨.ref b, h1, e, s, (Out.bind o).imp (fun q hq => ?_) fun _ _ z => z⟩
    intro v H1 x1 s1 i1
    split at hq
    · rename_i d hd
      obtain ⟨b', h3, h4⟩ := s1.ow i d hi hd
      have eb : b' = b := by
        rw [h1] at h3
        cases h3
        rfl
      subst eb
      exact ho σ q.2 H1 (.ref b') v d q.1 Q s1 h4.t i1.t (PNew.of hq x1 s1 (nx _ _))
    · exact hq.elim
  · exact o.elim
theorem tE_binR {r : R2} {op : D → D → R D} (hi : i ∈ C.own) (ho : OpD C r op) (nx : ∀ a b y l, op a b ≠ .exc y l) (σ : L2.St) (H : Hp) (Q : VK) (h : tE C (bin2R op f i) σ H Q) : tOp r (tE C f) (tVar i) σ H Q := by
  obtain ⟨e, s, o⟩ := h
  refine ⟨e, s, (Out.bind o).imp (fun q hq => ?_) fun _ _ z => z⟩
  intro v H1 x1 s1 i1
  split at hq
  · rename_i d hd
    obtain ⟨b, h3, h4⟩ := s1.ow i d hi hd
    exact ⟨.ref b, h3, ho σ q.2 H1 v (.ref b) q.1 d Q s1 i1.t h4.t (PNew.of hq x1 s1 (nx _ _))⟩
  · exact hq.elim
theorem je_opL {op : Operator} {r : R2} {F : D → D → R D} (ho : OpR X (binaryOp op) r) (hd : OpD C r F) (nx : ∀ a b y l, F a b ≠ .exc y l) (hi : i ∈ C.own) (hN : X.N[i]? = some x) (hv : Vis X.env.scope x) (hb : PE X b (tE C g)) (hdb : (x == ("__debug__" : Str)) = false := by decide) (hcd : (x == ("__classdict__" : Str)) = false := by decide) :
    PE X (.BinOp (.Name x px) op b pos) (tE C (bin2L F i g)) := PE.imp (pe_op ho (pe_var hN hv hdb hcd) hb) (tE_binL hi hd nx)
theorem je_opR {op : Operator} {r : R2} {F : D → D → R D} (ho : OpR X (binaryOp op) r) (hd : OpD C r F) (nx : ∀ a b y l, F a b ≠ .exc y l) (hi : i ∈ C.own) (hN : X.N[i]? = some x) (hv : Vis X.env.scope x) (ha : PE X a (tE C f)) (hdb : (x == ("__debug__" : Str)) = false := by decide) (hcd : (x == ("__classdict__" : Str)) = false := by decide) :
    PE X (.BinOp a op (.Name x px) pos) (tE C (bin2R F f i)) := PE.imp (pe_op ho ha (pe_var hN hv hdb hcd)) (tE_binR hi hd nx)
theorem je_cmpL {op : CmpOp} {r : R2} {F : D → D → R D} (ho : OpR X (compareOp op) r) (hd : OpD C r F) (nx : ∀ a b y l, F a b ≠ .exc y l) (hm : behindInMarks op b = false) (hi : i ∈ C.own) (hN : X.N[i]? = some x) (hv : Vis X.env.scope x) (hb : PE X b (tE C g)) (hdb : (x == ("__debug__" : Str)) = false := by decide) (hcd : (x == ("__classdict__" : Str)) = false := by decide) :
    PE X (.Compare (.Name x px) [op] [b] pos) (tE C (bin2L F i g)) := PE.imp (pe_cmpR ho (pe_var hN hv hdb hcd) hb hm) (tE_binL hi hd nx)
theorem jt_cmpL {op : CmpOp} {r : R2} {F : D → D → R D} (ho : OpR X (compareOp op) r) (hd : OpD C r F) (nx : ∀ a b y l, F a b ≠ .exc y l) (hm : behindInMarks op b = false) (hi : i ∈ C.own) (hN : X.N[i]? = some x) (hv : Vis X.env.scope x) (hb : PE X b (tE C g)) (hdb : (x == ("__debug__" : Str)) = false := by decide) (hcd : (x == ("__classdict__" : Str)) = false := by decide) :
    PT X (.Compare (.Name x px) [op] [b] pos) (tT C (tst (bin2L F i g))) := PT.imp (pt_cmpR ho (pe_var hN hv hdb hcd) hb hm) fun σ H Q h => tE_binL hi hd nx σ H _ (tT_test σ H Q h)
theorem je_cmpRO {op : CmpOp} {r : R2} {F : D → D → R D} (ho : OpR X (compareOp op) r) (hd : OpD C r F) (nx : ∀ a b y l, F a b ≠ .exc y l) (hm : behindInMarks op (.Name x px) = false) (hi : i ∈ C.own) (hN : X.N[i]? = some x) (hv : Vis X.env.scope x) (ha : PE X a (tE C f)) (hdb : (x == ("__debug__" : Str)) = false := by decide) (hcd : (x == ("__classdict__" : Str)) = false := by decide) :
    PE X (.Compare a [op] [.Name x px] pos) (tE C (bin2R F f i)) := PE.imp (pe_cmpR ho ha (pe_var hN hv hdb hcd) hm) (tE_binR hi hd nx)
theorem jt_cmpRO {op : CmpOp} {r : R2} {F : D → D → R D} (ho : OpR X (compareOp op) r) (hd : OpD C r F) (nx : ∀ a b y l, F a b ≠ .exc y l) (hm : behindInMarks op (.Name x px) = false) (hi : i ∈ C.own) (hN : X.N[i]? = some x) (hv : Vis X.env.scope x) (ha : PE X a (tE C f)) (hdb : (x == ("__debug__" : Str)) = false := by decide) (hcd : (x == ("__classdict__" : Str)) = false := by decide) :
    PT X (.Compare a [op] [.Name x px] pos) (tT C (tst (bin2R F f i))) := PT.imp (pt_cmpR ho ha (pe_var hN hv hdb hcd) hm) fun σ H Q h => tE_binR hi hd nx σ H _ (tT_test σ H Q h)
/-- x[lo:hi], x a list of one's own -/
def sliO (i : Nat) (lo hi : MD (Option Int)) : MD D := fun e => match e[i]? with
  | some (some (.lst _)) => (lo e).bind fun l => (hi l.2).bind fun u => match u.2[i]? with
    | some (some (.lst ds)) => .ok (.lst (cutG ds l.1 u.1), u.2)
    | _ => .bad
  | _ => .bad
theorem je_sliO {fl fu : MD (Option Int)} {lo hi : Option Expr} (hK : C.k.K = X.K) (hi' : i ∈ C.own) (hN : X.N[i]? = some x) (hv : Vis X.env.scope x) (hl : PO X lo (tO C fl)) (hu : PO X hi (tO C fu)) (hdb : (x == ("__debug__" : Str)) = false := by decide) (hcd : (x == ("__classdict__" : Str)) = false := by decide) :
    PE X (.Subscript (.Name x px) (.Slice lo hi none p2) pos) (tE C (sliO i fl fu)) := by
  refine PE.imp (pe_slice sl_list (pe_var hN hv hdb hcd) hl hu) fun σ H Q ⟨e, s, o⟩ => ?_
  unfold sliO at o
  split at o
  · rename_i ds0 h0
    obtain ⟨b, vs, h1, h2, h3⟩ := own_lst s hi' h0
    refine ⟨.ref b, h1, e, s, (Out.bind o).imp (fun l hl => ?_) fun _ _ z => z⟩
    intro H2 x2 s2
    refine ⟨l.2, s2, (Out.bind hl).imp (fun u hu => ?_) fun _ _ z => z.ext x2⟩
    intro H3 x3 s3
    split at hu
    · rename_i ds hd
      obtain ⟨b', ws, h4, h5, h6⟩ := own_lst s3 hi' hd
      have eb : b' = b := by
        rw [h1] at h4
        cases h4
        rfl
      subst eb
      have q : PNew C σ H3 Q (.ok (.lst (cutG ds l.1 u.1))) := PNew.of (e := u.2) hu (x2.trans x3) s3 (fun y l => by simp)
      exact ⟨b', ws, rfl, .inl (.inl h5), fun p hp => q.lst s3 hp (h6.cut _ _)⟩
    · exact hu.elim
  · exact o.elim
/-- f(x), x a list of one's own, f a built-in function -/
def callO (F : List D → R D) (i : Nat) : MD D := fun e => match e[i]? with
  | some (some d) => (F [d]).at e
  | _ => .bad
theorem tE_callO {r : List V → Hp → VK → Prop} {F : List D → R D} (hd : CaD C r F) (nx : ∀ a y l, F a ≠ .exc y l) (hi : i ∈ C.own) (σ : L2.St) (H : Hp) (Q : VK) (h : tE C (callO F i) σ H Q) : tCB r (tCons (tVar i) tNil) σ H Q := by
  obtain ⟨e, s, o⟩ := h
  unfold callO at o
  split at o
  · rename_i d h0
    obtain ⟨b, h1, h2⟩ := s.ow i d hi h0
    exact ⟨.ref b, h1, hd σ e H [.ref b] [d] Q s ⟨_, _, rfl, h2.t, rfl⟩ (PNew.of o (Ext.refl _ _) s (nx _))⟩
  · exact o.elim
variable {r : List V → Hp → VK → Prop} {F : List D → R D} {id T : String}
theorem je_callBO (hc : CallR X (.builtin id) r) (hd : CaD C r F) (nx : ∀ a y l, F a ≠ .exc y l) (hi : i ∈ C.own) (hN : X.N[i]? = some y) (hv' : Vis X.env.scope y) (hg : Gl X x) (hm : X.mg x = none) (hv : bootBuiltins x = some (.builtin id))
    (hn : x ≠ "__name__" := by decide) (hdb : (x == ("__debug__" : Str)) = false := by decide) (hdy : (y == ("__debug__" : Str)) = false := by decide) (hcy : (y == ("__classdict__" : Str)) = false := by decide)
    (he : starEach [.Name y px] X.env = (false, eval (.Name y px) X.env) :: starEach [] X.env := by rfl) (hpl : (backTo pos (starEach [] X.env)).any (·.1) = false := by rfl) : PE X (.Call (.Name x p) [.Name y px] [] pos) (tE C (callO F i)) :=
  PE.imp (pe_callB hc hg hm hv (pa_cons (pe_var hN hv' hdy hcy) pa_nil he) hn hdb he hpl) (tE_callO hd nx hi)
theorem je_callTyO (hc : CallR X (.type T) r) (hd : CaD C r F) (nx : ∀ a y l, F a ≠ .exc y l) (hi : i ∈ C.own) (hN : X.N[i]? = some y) (hv' : Vis X.env.scope y) (hg : Gl X x) (hm : X.mg x = none) (hv : bootBuiltins x = some (.type T))
    (hn : x ≠ "__name__" := by decide) (hdb : (x == ("__debug__" : Str)) = false := by decide) (hdy : (y == ("__debug__" : Str)) = false := by decide) (hcy : (y == ("__classdict__" : Str)) = false := by decide)
    (he : starEach [.Name y px] X.env = (false, eval (.Name y px) X.env) :: starEach [] X.env := by rfl) (hpl : (backTo pos (starEach [] X.env)).any (·.1) = false := by rfl) : PE X (.Call (.Name x p) [.Name y px] [] pos) (tE C (callO F i)) :=
  PE.imp (pe_callTy hc hg hm hv (pa_cons (pe_var hN hv' hdy hcy) pa_nil he) hn hdb he hpl) (tE_callO hd nx hi)

/-! ### sums of lists, as new lists -/
def addF (f g : MD D) : MD (List D) := fun e => (f e).bind fun p => (g p.2).bind fun q => match p.1, q.1 with
  | .lst xs, .lst ys => if xs.length + ys.length ≤ sizeLine then .ok (xs ++ ys, q.2) else .bad
  | _, _ => .bad
theorem jf_add (ha : PE X a (tE C f)) (hb : PE X b (tE C g)) : PE X (.BinOp a .Add b pos) (tF C (addF f g)) := by
  refine PE.imp (pe_op op_cat ha hb) fun σ H Q ⟨e, s, o⟩ => ⟨e, s, (Out.bind o).imp (fun p hp => ?_) fun _ _ z => z⟩
  intro v1 H1 x1 s1 i1
  refine ⟨p.2, s1, (Out.bind hp).imp (fun q hq => ?_) fun _ _ z => z.ext x1⟩
  intro v2 H2 x2 s2 i2
  split at hq
  · rename_i xs ys e1 e2
    split at hq
    · rename_i hz
      have i1' := (Stp.of x2).isD i1
      rw [e1] at i1'
      rw [e2] at i2
      obtain ⟨a1, vs, rfl, h1, _, h2⟩ := i1'
      obtain ⟨b1, ws, rfl, h3, _, h4⟩ := i2
      exact ⟨a1, b1, vs, ws, rfl, rfl, h1, h3, by rw [h2.length, h4.length]; exact hz, fun q hq' => hq _ H2 q (x1.trans x2) s2 (h2.app h4) hq'⟩
    · exact hq.elim
  · exact hq.elim
def addFL (i : Nat) (g : MD D) : MD (List D) := fun e => match e[i]? with
  | some (some (.lst _)) => (g e).bind fun q => match q.2[i]?, q.1 with
    | some (some (.lst xs)), .lst ys => if xs.length + ys.length ≤ sizeLine then .ok (xs ++ ys, q.2) else .bad
    | _, _ => .bad
  | _ => .bad
theorem jf_addL (hi : i ∈ C.own) (hN : X.N[i]? = some x) (hv : Vis X.env.scope x) (hb : PE X b (tE C g)) (hdb : (x == ("__debug__" : Str)) = false := by decide) (hcd : (x == ("__classdict__" : Str)) = false := by decide) : PE X (.BinOp (.Name x px) .Add b pos) (tF C (addFL i g)) := by
  refine PE.imp (pe_op op_cat (pe_var hN hv hdb hcd) hb) fun σ H Q ⟨e, s, o⟩ => ?_
  unfold addFL at o
  split at o
  · rename_i ds0 h0
    obtain ⟨b1, vs0, h1, h2, h3⟩ := own_lst s hi h0
    refine ⟨.ref b1, h1, e, s, (Out.bind o).imp (fun q hq => ?_) fun _ _ z => z⟩
    intro v2 H2 x2 s2 i2
    split at hq
    · rename_i xs ys e1 e2
      split at hq
      · rename_i hz
        obtain ⟨b', vs, h4, h5, h6⟩ := own_lst s2 hi e1
        have eb : b' = b1 := by
          rw [h1] at h4
          cases h4
          rfl
        subst eb
        rw [e2] at i2
        obtain ⟨c1, ws, rfl, h7, _, h8⟩ := i2
        exact ⟨b', c1, vs, ws, rfl, rfl, h5, h7, by rw [h6.length, h8.length]; exact hz, fun q hq' => hq _ H2 q x2 s2 (h6.app h8) hq'⟩
      · exact hq.elim
    · exact hq.elim
  · exact o.elim
end
end Dn

namespace Dn
open PySem PySem.Spec PyProof.Rows L2
/-! ### a protected list is changed, let go -/
theorem SR.wr1 {C : Ct} {e : Lc} {σ : L2.St} {H H' : Hp} (s : SR C e σ H) {q : Addr} {o : HO} {d : D} (hM : C.M q) (hq : H q = some o) (hx : ¬ Fx o) (h0 : C.H0 q = none) (hp : C.par ≠ some q) (x : Ext (fun c => c = q) H H') (od : OwnD C.k H' (MO C σ) d q) : SR C e σ H' := by
  have hm : MO C σ q := .inl hM
  have there : ∃ o, H' q = some o := by
    cases d with
    | lst ds =>
      obtain ⟨vs, h1, _⟩ := od
      exact ⟨_, h1⟩
    | dct ks ds =>
      obtain ⟨vs, h1, _⟩ := od
      exact ⟨_, h1⟩
    | _ => exact od.elim
  have xm : Ext (MO C σ) H H' := fun b u z n => x b u z (n.imp (fun n y => n (by rw [y]; exact hm)) id)
  have kn : ∀ b u, b ≠ q → H b = some u → H' b = some u := fun b u hb z => x b u z (.inl hb)
  have kp : ∀ b u, H b = some u → ∃ u', H' b = some u' := fun b u z => by
    by_cases hb : b = q
    · rw [hb]
      exact there
    · exact ⟨u, kn b u hb z⟩
  refine ⟨s.len, fun i d hi he => ?_, fun i d hi he => ?_, s.dist, s.fr, fun b u z n => ?_, fun b h => (s.al b h).elim fun u z => kp b u z, s.nm, fun i b hi h => (s.alo i b hi h).elim fun u z => kp b u z, s.p0, fun b h => (s.pm b h).elim fun u z => kp b u z⟩
  · obtain ⟨v, h1, h2⟩ := s.val i d hi he
    exact ⟨v, h1, IsD.step xm (fun _ z => .inl z) _ _ h2⟩
  · obtain ⟨a, h1, h2⟩ := s.ow i d hi he
    have ha : a ≠ q := fun z => by
      subst z
      rcases s.nm i a hi h1 with y | y
      · exact y hM
      · exact hp y
    exact ⟨a, h1, OwnD.step xm (fun _ z => .inl z) h2 fun u z => kn a u ha z⟩
  · have hb : b ≠ q := fun y => by
      rw [y, h0] at z
      cases z
    exact kn b u hb (s.ext b u z n)
theorem OwnD.mono {k : Kx} {H : Hp} {M M' : Addr → Prop} {d : D} {a : Addr} (h : OwnD k H M d a) (m : ∀ a, M' a → M a) : OwnD k H M' d a := OwnD.step (Ext.refl _ _) (fun a z => .inl (m a z)) h fun _ z => z
theorem SR.out0 {C : Ct} {e e' : Lc} {σ : L2.St} {H H' : Hp} {q : Addr} (s : SR C e σ H) (hq : H q = none) (s' : SR (C.b fun a => C.M a ∨ a = q) e' σ H') (x : ∀ a u, H a = some u → (¬ OW C σ a ∨ Fx u) → H' a = some u) : SR C e' σ H' ∧ Ext (OW C σ) H H' := by
  have moq : ∀ a, MO C σ a → MO (C.b fun a => C.M a ∨ a = q) σ a := fun a z => by
    rcases z with z | z
    · exact .inl (.inl z)
    · exact .inr z
  refine ⟨⟨s'.len, fun i d hi he => ?_, fun i d hi he => ?_, s.dist, s.fr, s'.ext, fun a h => s'.al a (.inl h), s.nm, s'.alo, s.p0, s'.pm⟩, x⟩
  · obtain ⟨v, h1, h2⟩ := s'.val i d hi he
    exact ⟨v, h1, h2.mono moq⟩
  · obtain ⟨a, h1, h2⟩ := s'.ow i d hi he
    exact ⟨a, h1, h2.mono moq⟩
section
variable {X : Cx} {C : Ct} {CX : CXT} {lv n : Nat} {fa0 : Addr} {fd : FuncData} {ps : List Str} {a b : Expr} {es : List Expr} {pos p p2 px : Pos} {f g : MD D} {fa : MD (List D)} {i : Nat} {x y : Str}

/-! ### calls that give a new list -/
def lstR {β : Type} (r : R (D × β)) : R (List D × β) := r.bind fun q => match q.1 with
  | .lst ds => .ok (ds, q.2)
  | _ => .bad
def calF (F : List D → R D) (dd : List D) (fa : MD (List D)) : MD (List D) := fun e => (fa e).bind fun p => lstR ((F (p.1 ++ dd)).at p.2)
theorem era_of {H0 H' : Hp} {q : Addr} (k : Same H0 H') (h : H0 q = none) : Same H0 (era H' q) := fun a o z => by
  rw [era_ne (ne_of_none z h)]
  exact k a o z
theorem je_callF {F : List D → R D} {dd : List D} {dv : List V} {dvs : List Value} (G : FnAt X CX fa0 fd ps (spP C.k n true F)) (hg : Gl X x) (hm : X.mg x = some (.ref fa0)) (hk : PySem.W.keepIn X.K (.ref fa0) = true)
    (hb : Binds X.K fd ps dvs) (hd : Vals dv dvs) (hc : Cst C.k dd dv) (hx : PX CX X C) (hl : (a :: es).length + dd.length = n) (hlen : ∀ e r, fa e = .ok r → r.1.length = (a :: es).length) (ha : PA X (a :: es) (tA C fa)) (hdb : (x == ("__debug__" : Str)) = false := by decide)
    (he : starEach (a :: es) X.env = (false, eval a X.env) :: starEach es X.env := by rfl) (hpl : (backTo pos (starEach es X.env)).any (·.1) = false := by rfl) : PE X (.Call (.Name x p) (a :: es) [] pos) (tF C (calF F dd fa)) := by
  refine PE.imp (pe_at G hg hm hk hb hd hx ha hdb he hpl) fun σ H Q ⟨e, s, o⟩ => ⟨e, s, ?_⟩
  have o1 := Out.bind o
  cases e0 : fa e with
  | bad =>
    rw [e0] at o1
    exact o1.elim
  | exc z l =>
    rw [e0] at o1
    exact o1
  | ok q =>
    rw [e0] at o1
    intro vs H1 x1 s1 i1
    have hq := hlen e q e0
    refine ⟨MO C σ, q.1 ++ dd, ?_, i1.app (hc H1 _), fun b z => s1.mod z, ?_⟩
    · rw [List.length_append, i1.length, hq, (hc H1 fun _ => False).length]
      exact hl
    · have o2 : Out (PF C σ H Q) (XO C σ H) (lstR ((F (q.1 ++ dd)).at q.2)) := o1
      cases e1 : F (q.1 ++ dd) with
      | bad =>
        rw [e1] at o2
        exact o2.elim
      | exc z l =>
        rw [e1] at o2
        exact fun cls xd H2 k2 r => o2 cls xd H2 (x1.trans (same_ext k2)) (s1.same k2) r
      | ok d =>
        rw [e1] at o2
        intro v H2 k2 iv nn
        obtain ⟨ds, q', vs', rfl, rfl, h3, h4, h5⟩ := nn rfl
        have k3 := era_of k2 h3
        have fin := o2 vs' (era H2 q') q' (x1.trans (same_ext k3)) (s1.same k3) h5 era_same
        rw [era_upd h4] at fin
        exact fin
/-- one that changes the list x of one's own besides -/
def caIF (F : D → List D → R (D × D)) (i : Nat) (fa : MD (List D)) : MD (List D) := fun e => match e[i]? with
  | some (some _) => (fa e).bind fun p => match p.2[i]? with
    | some (some d0) => (noX (F d0 p.1)).bind fun r => match r.1 with
      | .lst ds => .ok (ds, p.2.set i (some r.2))
      | _ => .bad
    | _ => .bad
  | _ => .bad
theorem je_callIF {F : D → List D → R (D × D)} (G : FnAt X CX0 fa0 fd ps (spI C.k n true F)) (hg : Gl X x) (hm : X.mg x = some (.ref fa0)) (hk : PySem.W.keepIn X.K (.ref fa0) = true)
    (hb : Binds X.K fd ps []) (hl : es.length + 1 = n) (hlen : ∀ e r, fa e = .ok r → r.1.length = es.length) (ho : i ∈ C.own) (hN : X.N[i]? = some y) (hv : Vis X.env.scope y) (ha : PA X es (tA C fa)) (hdb : (x == ("__debug__" : Str)) = false := by decide)
    (hd : (y == ("__debug__" : Str)) = false := by decide) (hcd : (y == ("__classdict__" : Str)) = false := by decide)
    (he : starEach (.Name y px :: es) X.env = (false, eval (.Name y px) X.env) :: starEach es X.env := by rfl) (hpl : (backTo pos (starEach es X.env)).any (·.1) = false := by rfl) : PE X (.Call (.Name x p) (.Name y px :: es) [] pos) (tF C (caIF F i fa)) := by
  refine PE.imp (pe_at (E := fun _ _ _ _ => False) G hg hm hk hb .nil (fun σ _ _ _ _ _ _ h => h.elim) (pa_cons (pe_var hN hv hd hcd) ha he) hdb he hpl) fun σ H Q ⟨e, s, o⟩ => ?_
  unfold caIF at o
  split at o
  · rename_i d00 h00
    obtain ⟨b, h1, h2⟩ := s.ow i _ ho h00
    refine ⟨.ref b, h1, e, s, ?_⟩
    have o1 := Out.bind o
    cases e0 : fa e with
    | bad =>
      rw [e0] at o1
      exact o1.elim
    | exc z l =>
      rw [e0] at o1
      exact o1
    | ok q =>
      rw [e0] at o1
      intro vs H1 x1 s1 i1
      have hq := hlen e q e0
      have o2 : Out (PF C σ H Q) (XO C σ H) (match q.2[i]? with
        | some (some d0) => (noX (F d0 q.1)).bind fun r => match r.1 with
          | .lst ds => .ok (ds, q.2.set i (some r.2))
          | _ => .bad
        | _ => .bad) := o1
      split at o2
      · rename_i d0 hd0
        obtain ⟨b', h3, h4⟩ := s1.ow i d0 ho hd0
        have eb : b' = b := by
          rw [h1] at h3
          cases h3
          rfl
        subst eb
        refine ⟨MO C σ, b', d0, q.1, vs, by rw [List.append_nil], ?_, .inr ⟨i, ho, h1⟩, h4, i1, fun c z => s1.mod z, ?_⟩
        · rw [List.append_nil, List.length_cons, i1.length, hq]
          exact hl
        · refine (noX_bind (E' := fun _ _ => False) o2).imp (fun r hr v H2 x2 od iv nn => ?_) fun _ _ z => z
          obtain ⟨⟨ds, q', vs', e1, e2, h6, h7, h8⟩, h9⟩ := nn rfl
          have hr2 : Out (PF C σ H Q) (XO C σ H) (match r.1 with | .lst ds => R.ok (ds, q.2.set i (some r.2)) | _ => .bad) := hr
          rw [e1] at hr2
          subst e2
          have od3 := h9 q' rfl
          have x3 : Ext (fun c => c = b') H1 (era H2 q') := fun c o z n => by
            rw [era_ne (ne_of_none z h6)]
            exact x2 c o z n
          obtain ⟨s4, x4⟩ := s1.io ho h1 h4 x3 od3
          have fin := hr2 vs' (era H2 q') q' (x1.trans x4) s4 h8 era_same
          rw [era_upd h7] at fin
          exact fin
      · exact o2.elim
  · exact o.elim
/-- f(new list, e, ..): the list is let go behind the call -/
def caN (F : D → List D → R (D × D)) (ff : MD (List D)) (fa : MD (List D)) : MD D := fun e => (ff e).bind fun p => (noX (fa p.2)).bind fun q => (noX (F (.lst p.1) q.1)).bind fun r => match r.1 with
  | .bl b => .ok (.bl b, q.2)
  | .int j => .ok (.int j, q.2)
  | .non => .ok (.non, q.2)
  | .str z => .ok (.str z, q.2)
  | _ => .bad
theorem je_callN1 {F : D → List D → R (D × D)} {ff : MD (List D)} {nw : Bool} (G : FnAt X CX0 fa0 fd ps (spI C.k n nw F)) (hg : Gl X x) (hm : X.mg x = some (.ref fa0)) (hk : PySem.W.keepIn X.K (.ref fa0) = true)
    (hb : Binds X.K fd ps []) (hl : es.length + 1 = n) (hlen : ∀ e r, fa e = .ok r → r.1.length = es.length) (h1 : PE X a (tF C ff)) (ha : ∀ M', PA X es (tA (C.b M') fa)) (hdb : (x == ("__debug__" : Str)) = false := by decide)
    (he : starEach (a :: es) X.env = (false, eval a X.env) :: starEach es X.env := by rfl) (hpl : (backTo pos (starEach es X.env)).any (·.1) = false := by rfl) : PE X (.Call (.Name x p) (a :: es) [] pos) (tE C (caN F ff fa)) := by
  have haa : PA X es (fun σ H Q => ∃ M', tA (C.b M') fa σ H Q) := ⟨fun pos pins s σ H Q I ⟨M', h⟩ => (ha M').run pos pins s σ H Q I h⟩
  refine PE.imp (pe_at (E := fun _ _ _ _ => False) G hg hm hk hb .nil (fun σ _ _ _ _ _ _ h => h.elim) (pa_cons h1 haa he) hdb he hpl) fun σ H Q ⟨e, s, o⟩ => ?_
  refine ⟨e, s, (Out.bind o).imp (fun q hq => ?_) fun _ _ z => z⟩
  intro vs H1 q1 x1 s1 i1 hq1
  have hqp : C.par ≠ some q1 := fun z => by
    obtain ⟨u2, h2⟩ := s1.pm q1 z
    rw [hq1] at h2
    cases h2
  have s2 := s1.into (o := .lst vs) hq1
  refine ⟨fun a => C.M a ∨ a = q1, q.2, s2, ?_⟩
  have o3 := noX_bind (E' := XO (C.b fun a => C.M a ∨ a = q1) σ (upd H1 q1 (.lst vs))) hq
  cases e0' : fa q.2 with
  | bad =>
    rw [e0'] at o3
    exact o3.elim
  | exc z l =>
    rw [e0'] at o3
    exact o3
  | ok r =>
    rw [e0'] at o3
    intro ws H2 x2 s3 i3
    have hlr := hlen q.2 r e0'
    have nq : ∀ τ, MO (C.b fun a => C.M a ∨ a = q1) τ q1 := fun τ => .inl (.inr rfl)
    have now : ¬ OW (C.b fun a => C.M a ∨ a = q1) σ q1 := fun ⟨j, hj, z⟩ => by
      rcases s2.nm j q1 hj z with y | y
      · exact y (.inr rfl)
      · exact hqp y
    have h12 : H2 q1 = some (.lst vs) := x2 q1 _ upd_same (.inl now)
    have i12 : IsDs C.k H2 (MO (C.b fun a => C.M a ∨ a = q1) σ) q.1 vs := IsDs.step x2.mo (fun a z => .inl z) _ _ (IsDs.step (Ext.upd hq1) (fun a z => by
      rcases z with (z | z) | z
      · exact .inl (.inl z)
      · exact .inr (by rw [z]; exact hq1)
      · exact .inl (.inr z)) _ _ i1)
    refine ⟨MO (C.b fun a => C.M a ∨ a = q1) σ, q1, .lst q.1, r.1, ws, by rw [List.append_nil], ?_, nq σ, ⟨vs, h12, i12⟩, i3, fun c z => s3.mod z, ?_⟩
    · rw [List.append_nil, List.length_cons, i3.length, hlr]
      exact hl
    · refine (noX_bind (E' := fun _ _ => False) o3).imp (fun t ht v H3 x3 od iv _ => ?_) fun _ _ z => z
      have fin : ∀ d, (∀ (H H' : Hp) (M M' : Addr → Prop) v, IsD C.k H M d v → IsD C.k H' M' d v) → t.1 = d → PO1 C σ H Q (d, r.2) → Q v H3 := fun d hs e1 h => by
        have hs1 : SR (C.b fun a => C.M a ∨ a = q1) r.2 σ H3 := by
          have h0q : C.H0 q1 = none := by
            cases z : C.H0 q1 with
            | none => rfl
            | some u =>
              have := s1.ext q1 u z (.inl hqp)
              rw [hq1] at this
              cases this
          exact s3.wr1 (.inr rfl) h12 (fun z => z) h0q hqp x3 od
        have hs2 : SR C r.2 σ H3 ∧ Ext (OW C σ) H1 H3 := SR.out0 s1 hq1 hs1 fun a u z n => by
          have ha : a ≠ q1 := ne_of_none z hq1
          have h2 := x2 a u (by rw [upd_ne ha]; exact z) n
          exact x3 a u h2 (.inl ha)
        rw [e1] at iv
        exact h v H3 (x1.trans hs2.2) hs2.1 (hs _ _ _ _ _ iv)
      split at ht
      · rename_i b e1
        exact fin (.bl b) (fun _ _ _ _ _ z => z) e1 ht
      · rename_i b e1
        exact fin (.int b) (fun _ _ _ _ _ z => z) e1 ht
      · rename_i e1
        exact fin .non (fun _ _ _ _ _ z => z) e1 ht
      · rename_i b e1
        exact fin (.str b) (fun _ _ _ _ _ z => z) e1 ht
      · exact ht.elim
end
end Dn

namespace Dn
open PySem PySem.Spec PyProof.Rows L2
section
variable {X : Cx} {C : Ct} {a b c : Expr} {es : List Expr} {pos p p2 px py pt : Pos} {f g : MD D} {ff : MD (List D)} {fa : MD (List D)} {i j : Nat} {x y : Str} {kt k2 : Nat} {pt2 : Pos}

/-! ### a, b = e1, e2 -/
def parS (i j : Nat) (f g : MD D) : MS := fun e => (f e).bind fun p => (g p.2).bind fun q => .ok (.nx, (q.2.set i (some p.1)).set j (some q.1))
theorem js_par (ho : i ∉ C.own) (hf : Free C i) (ho2 : j ∉ C.own) (hf2 : Free C j) (hc : X.calm = true) (hN : X.N.Nodup) (hi : X.N[i]? = some x) (hj : X.N[j]? = some y) (hij : i ≠ j)
    (hx : X.env.scope.names.lookup x = some .local) (hy : X.env.scope.names.lookup y = some .local) (ha : PE X a (tE C f)) (hb : PE X b (tE C g))
    (hw : swappedStores [.Tuple [.Name x px, .Name y py] kt pt] (.Tuple [a, b] k2 pt2) X.env = pure (some [x, y]))
    (h1 : starEach [a, b] X.env = (false, eval a X.env) :: starEach [b] X.env := by rfl) (h2 : starEach [b] X.env = (false, eval b X.env) :: starEach [] X.env := by rfl)
    (hs : swapsWithSole [.Tuple [.Name x px, .Name y py] kt pt] (.Tuple [a, b] k2 pt2) pos.line X.env = pure false := by rfl) :
    PS X (.Assign [.Tuple [.Name x px, .Name y py] kt pt] (.Tuple [a, b] k2 pt2) pos) (tS C (parS i j f g)) := by
  refine PS.imp (ps_par hc hN hi hj hij hx hy (pa_cons ha (pa_cons hb pa_nil h2) h1) hw hs) fun D σ H ⟨e, s, o⟩ => ⟨e, s, (Out.bind o).imp (fun p hp => ?_) fun _ _ z => z.xo⟩
  intro v H1 x1 s1 i1
  refine ⟨p.2, s1, (Out.bind hp).imp (fun q hq => ?_) fun _ _ z => (z.step (Stp.of x1)).xo⟩
  intro w H2 x2 s2 i2
  refine ⟨v, w, rfl, hq _ H2 (Stp.trans (Stp.set ho (x1.trans x2)) (Stp.set ho2 (Ext.refl _ _))) ?_⟩
  have s3 := s2.set ho hf ((Stp.of x2).isD i1)
  exact s3.set ho2 hf2 (by rw [MO_set ho]; exact i2)
/-- the second name one's own, its value a new list -/
def parS2 (i j : Nat) (f : MD D) (ff : MD (List D)) : MS := fun e => (f e).bind fun p => (ff p.2).bind fun q => .ok (.nx, (q.2.set i (some p.1)).set j (some (.lst q.1)))
theorem js_par2 (ho : i ∉ C.own) (hf : Free C i) (ho2 : j ∈ C.own) (hf2 : Free C j) (hc : X.calm = true) (hN : X.N.Nodup) (hi : X.N[i]? = some x) (hj : X.N[j]? = some y) (hij : i ≠ j)
    (hx : X.env.scope.names.lookup x = some .local) (hy : X.env.scope.names.lookup y = some .local) (ha : PE X a (tE C f)) (hb : PE X b (tF C ff))
    (hw : swappedStores [.Tuple [.Name x px, .Name y py] kt pt] (.Tuple [a, b] k2 pt2) X.env = pure (some [x, y]))
    (h1 : starEach [a, b] X.env = (false, eval a X.env) :: starEach [b] X.env := by rfl) (h2 : starEach [b] X.env = (false, eval b X.env) :: starEach [] X.env := by rfl)
    (hs : swapsWithSole [.Tuple [.Name x px, .Name y py] kt pt] (.Tuple [a, b] k2 pt2) pos.line X.env = pure false := by rfl) :
    PS X (.Assign [.Tuple [.Name x px, .Name y py] kt pt] (.Tuple [a, b] k2 pt2) pos) (tS C (parS2 i j f ff)) := by
  refine PS.imp (ps_par hc hN hi hj hij hx hy (pa_cons ha (pa_cons hb pa_nil h2) h1) hw hs) fun D σ H ⟨e, s, o⟩ => ⟨e, s, (Out.bind o).imp (fun p hp => ?_) fun _ _ z => z.xo⟩
  intro v H1 x1 s1 i1
  refine ⟨p.2, s1, (Out.bind hp).imp (fun q hq => ?_) fun _ _ z => (z.step (Stp.of x1)).xo⟩
  intro vs H2 l x2 s2 i2 hl
  have s3 := s2.set ho hf ((Stp.of x2).isD i1)
  have i3 : IsDs C.k H2 (MO C (σ.set i (some v))) q.1 vs := by rw [MO_set ho]; exact i2
  obtain ⟨s4, x4⟩ := s3.setO ho2 hf2 hl (OwnD.new s3 hl i3)
  exact ⟨v, .ref l, rfl, hq _ _ ((Stp.set ho (x1.trans x2)).trans x4) s4⟩
/-- the first name one's own, its value a new list -/
def parS1 (i j : Nat) (ff : MD (List D)) (g : MD D) : MS := fun e => (ff e).bind fun p => (noX (g p.2)).bind fun q => .ok (.nx, (q.2.set i (some (.lst p.1))).set j (some q.1))
theorem js_par1 (ho : i ∈ C.own) (hf : Free C i) (ho2 : j ∉ C.own) (hf2 : Free C j) (hc : X.calm = true) (hN : X.N.Nodup) (hi : X.N[i]? = some x) (hj : X.N[j]? = some y) (hij : i ≠ j)
    (hx : X.env.scope.names.lookup x = some .local) (hy : X.env.scope.names.lookup y = some .local) (ha : PE X a (tF C ff)) (hb : ∀ M', PE X b (tE (C.b M') g))
    (hw : swappedStores [.Tuple [.Name x px, .Name y py] kt pt] (.Tuple [a, b] k2 pt2) X.env = pure (some [x, y]))
    (h1 : starEach [a, b] X.env = (false, eval a X.env) :: starEach [b] X.env := by rfl) (h2 : starEach [b] X.env = (false, eval b X.env) :: starEach [] X.env := by rfl)
    (hs : swapsWithSole [.Tuple [.Name x px, .Name y py] kt pt] (.Tuple [a, b] k2 pt2) pos.line X.env = pure false := by rfl) :
    PS X (.Assign [.Tuple [.Name x px, .Name y py] kt pt] (.Tuple [a, b] k2 pt2) pos) (tS C (parS1 i j ff g)) := by
  refine PS.imp (ps_par hc hN hi hj hij hx hy (pa_cons ha (pa_cons (PE.exM hb) pa_nil h2) h1) hw hs) fun D σ H ⟨e, s, o⟩ => ⟨e, s, (Out.bind o).imp (fun p hp => ?_) fun _ _ z => z.xo⟩
  intro vs H1 q1 x1 s1 i1 hq1
  have hqp : C.par ≠ some q1 := fun z => by
    obtain ⟨u2, h2⟩ := s1.pm q1 z
    rw [hq1] at h2
    cases h2
  have s2 := s1.into (o := .lst vs) hq1
  refine ⟨fun a => C.M a ∨ a = q1, p.2, s2, ?_⟩
  refine (noX_bind hp).imp (fun q hq => ?_) fun _ _ z => z
  intro w H2 x2 s3 i3
  have now : ¬ OW (C.b fun a => C.M a ∨ a = q1) σ q1 := fun ⟨j, hj, z⟩ => by
    rcases s2.nm j q1 hj z with y | y
    · exact y (.inr rfl)
    · exact hqp y
  have h12 : H2 q1 = some (.lst vs) := x2 q1 _ upd_same (.inl now)
  have nq : MO (C.b fun a => C.M a ∨ a = q1) σ q1 := .inl (.inr rfl)
  have i12 : IsDs C.k H2 (MO (C.b fun a => C.M a ∨ a = q1) σ) p.1 vs := IsDs.step x2.mo (fun a z => .inl z) _ _ (IsDs.step (Ext.upd hq1) (fun a z => by
    rcases z with (z | z) | z
    · exact .inl (.inl z)
    · exact .inr (by rw [z]; exact hq1)
    · exact .inl (.inr z)) _ _ i1)
  have mq2 : ∀ a, MO C σ a → MO (C.b fun a => C.M a ∨ a = q1) σ a := fun a z => by
    rcases z with z | z
    · exact .inl (.inl z)
    · exact .inr z
  obtain ⟨s9, x9⟩ := SR.out (vs := []) (fun _ z => by cases z) s1 hq1 s3 h12 fun a u z n => x2 a u (by rw [upd_ne (ne_of_none z hq1)]; exact z) n
  have nr : OwnD C.k (upd (Dn.era H2 q1) q1 (.lst vs)) (fun a => MO C σ a ∨ a = q1) (.lst p.1) q1 := OwnD.new (C := C) (σ := σ) (e := q.2) s9 era_same (IsDs.era h12 (fun z => z) nq mq2 _ _ i12)
  obtain ⟨s10, x10⟩ := s9.setO ho hf era_same nr
  rw [era_upd h12] at s10 x10
  have i4 : IsD C.k H2 (MO C (σ.set i (some (.ref q1)))) q.1 w := i3.mono fun a z => by
    rcases z with z | ⟨k, hk, z⟩
    · exact .inl (.inl z)
    · by_cases hki : k = i
      · subst hki
        rw [List.getElem?_set] at z
        split at z
        · split at z
          · cases z
            exact nq
          · cases z
        · exact absurd rfl ‹_›
      · rw [List.getElem?_set_ne (fun h => hki h.symm)] at z
        exact .inr ⟨k, hk, z⟩
  exact ⟨.ref q1, w, rfl, hq _ H2 ((Stp.of (x1.trans x9)).trans (x10.trans (Stp.set ho2 (Ext.refl _ _)))) (s10.set ho2 hf2 i4)⟩

/-! ### name = [comprehension] -/
theorem set_of {t : TE} {f : MD (List D)} (ho : i ∉ C.own) (hf : Free C i) (ht : ∀ σ H Q, tF C f σ H Q → t σ H Q) (D : Ends) (σ : L2.St) (H : Hp) (h : tS C (setO i f) D σ H) : tAsg t (gName i) D σ H := by
  obtain ⟨e, s, o⟩ := h
  refine ht _ _ _ ⟨e, s, (Out.bind o).imp (fun p hp => ?_) fun _ _ z => z.xo⟩
  intro vs H1 q x1 s1 i1 hq
  have s2 : SR C p.2 σ (upd H1 q (.lst vs)) := s1.grow hq
  exact hp _ _ (Stp.set ho (x1.trans (Ext.upd hq))) (s2.set ho hf (IsD.newL s1 hq i1))
theorem setO_of {t : TE} {f : MD (List D)} (ho : i ∈ C.own) (hf : Free C i) (ht : ∀ σ H Q, tF C f σ H Q → t σ H Q) (D : Ends) (σ : L2.St) (H : Hp) (h : tS C (setO i f) D σ H) : tAsg t (gName i) D σ H := by
  obtain ⟨e, s, o⟩ := h
  refine ht _ _ _ ⟨e, s, (Out.bind o).imp (fun p hp => ?_) fun _ _ z => z.xo⟩
  intro vs H1 q x1 s1 i1 hq
  obtain ⟨s2, x2⟩ := s1.setO ho hf hq (OwnD.new s1 hq i1)
  exact hp _ _ ((Stp.of x1).trans x2) s2
/-- a plain name gets a new list -/
theorem js_setL (ho : i ∉ C.own) (hf : Free C i) (hN : X.N.Nodup) (hi : X.N[i]? = some x) (hx : Loc X.env.scope x) (hfn : X.fn x = true ∨ X.env.scope.names.lookup x = some .local) (he : PE X a (tF C ff)) (hs : swapsWith a (some (.Name x px)) pos.line X.env = pure false := by rfl) :
    PS X (.Assign [.Name x px] a pos) (tS C (setO i ff)) := PS.imp (ps_set hN hi hx he hs hfn) (set_of ho hf fun _ _ _ h => h)
variable {elt tg iter : Expr} {ifs : List Expr} {scope : Scope} {own : List (Str × Nat)} {spos : Pos} {t : MD Bool} {el : MD D} {gg : GD}
theorem js_setLc (hw : (i ∉ C.own ∧ Free C i) ∨ (i ∈ C.own ∧ Free C i)) (hc : X.calm = true) (hN : X.N.Nodup) (hy : X.N[i]? = some y) (hyl : X.env.scope.names.lookup y = some .local)
    (hsw : swapsWith (.ListComp elt [⟨tg, iter, ifs, 0⟩] scope pos) (some (.Name y py)) spos.line X.env = pure true) (hv : OkVs C (own.map (·.2))) (hi : PI X tg iter (tI C fa)) (ok : BlkOk X.N X.env.scope scope own)
    (hg : ∀ (M' : Addr → Prop) (s : Shared) (H : Hp) (Ca : Addr) (cl : List (Str × Addr)) (fp : List Addr), PG (X.blk s H scope (compEnvC scope cl Ca X.env) fp) tg (tGv (C.b M') (own.map (·.2)) gg))
    (ht : ∀ (M' : Addr → Prop) (s : Shared) (H : Hp) (Ca : Addr) (cl : List (Str × Addr)) (fp : List Addr), PTs (X.blk s H scope (compEnvC scope cl Ca X.env) fp) ifs (tT (C.b M') t))
    (he : ∀ (M' : Addr → Prop) (s : Shared) (H : Hp) (Ca : Addr) (cl : List (Str × Addr)) (fp : List Addr), PE (X.blk s H scope (compEnvC scope cl Ca X.env) fp) elt (tE (C.b M') el)) (hs : ∀ x, foldedSetIterable iter X.env x = pure x := by intro _; rfl) :
    PS X (.Assign [.Name y py] (.ListComp elt [⟨tg, iter, ifs, 0⟩] scope pos) spos) (tS C (setO i (lcM (own.map (·.2)) fa gg t el))) := by
  have h := ps_setLc hc hN hy hyl hsw hi ok (fun s H Ca cl fp => PG.exM fun M' => hg M' s H Ca cl fp) (fun s H Ca cl fp => PTs.exM fun M' => ht M' s H Ca cl fp) (fun s H Ca cl fp => PE.exM fun M' => he M' s H Ca cl fp) hs
  rcases hw with ⟨ho, hf⟩ | ⟨ho, hf⟩
  · exact PS.imp h (set_of ho hf fun σ H Q h => lc_go hv h)
  · exact PS.imp h (setO_of ho hf fun σ H Q h => lc_go hv h)

/-! ### a list of one's own, changed by its methods -/
/-- x.pop(k) -/
def popK (i : Nat) (f : MD D) : MD D := fun e => match e[i]? with
  | some (some (.lst _)) => (f e).bind fun p => match p.1, p.2[i]? with
    | .int k, some (some (.lst ds)) => if -(2 ^ 63) ≤ k ∧ k < 2 ^ 63 then match seqIndex? k ds.length with
      | some n => match ds[n]? with
        | some d => .ok (d, p.2.set i (some (.lst (ds.eraseIdx n))))
        | none => .bad
      | none => .bad
      else .bad
    | _, _ => .bad
  | _ => .bad
theorem IsDs.eraseIdx {k : Kx} {H : Hp} {M : Addr → Prop} : ∀ {ds : List D} {vs : List V} (n : Nat), IsDs k H M ds vs → IsDs k H M (ds.eraseIdx n) (vs.eraseIdx n)
  | [], _, n, h => by
    rw [show _ = [] from h]
    simp [IsDs]
  | d :: ds, vs, 0, ⟨v, r, e, _, h2⟩ => by
    subst e
    exact h2
  | d :: ds, vs, n + 1, ⟨v, r, e, h1, h2⟩ => by
    subst e
    exact ⟨v, _, rfl, h1, IsDs.eraseIdx n h2⟩
theorem je_popK {cp ap : Pos} (ho : i ∈ C.own) (hN : X.N[i]? = some x) (hv : Vis X.env.scope x) (he : PE X a (tE C f)) (hd : (x == ("__debug__" : Str)) = false := by decide) (hcd : (x == ("__classdict__" : Str)) = false := by decide)
    (hbase : attributeBase (.Name x px) "pop" X.env (eval (.Name x px) X.env) = eval (.Name x px) X.env := by rfl)
    (hfew : ((backTo cp (starEach [a] X.env)).all (fun x => !x.1) && (backToKw cp (keywordEach [] X.env)).all (fun x => x.1.isSome)
      && decide ([a].length + ([] : List Keyword).length + (if ([] : List Keyword).isEmpty then 0 else 1) < 30)) = true := by rfl)
    (hline : (ap.endLine == cp.line) = true := by rfl) (hs : starEach [a] X.env = (false, eval a X.env) :: starEach [] X.env := by rfl) (hplain : (backTo cp (starEach [] X.env)).any (·.1) = false := by rfl) :
    PE X (.Call (.Attribute (.Name x px) "pop" ap) [a] [] cp) (tE C (popK i f)) := by
  refine PE.imp (pe_bm PySem.F.plainAttrs_list PySem.F.slot_list_pop PySem.F.type_list_pop mt_popAt (pe_var hN hv hd hcd) (pa_cons he pa_nil hs) hbase hfew hline hs hplain) fun σ H Q ⟨e, s, o⟩ => ?_
  unfold popK at o
  split at o
  · rename_i ds0 h0
    obtain ⟨b, vs, h1, h2, h3⟩ := own_lst s ho h0
    refine ⟨.ref b, h1, .inl ⟨rfl, vs, .inl (.inl h2)⟩, e, s, (Out.bind o).imp (fun p hp => ?_) fun _ _ z => z⟩
    intro v H1 x1 s1 i1
    split at hp
    · rename_i k ds e1 e2
      split at hp
      · rename_i hk
        split at hp
        · rename_i n hn
          split at hp
          · rename_i d hd
            obtain ⟨b', ws, h4, h5, h6⟩ := own_lst s1 ho e2
            have eb : b' = b := by
              rw [h1] at h4
              cases h4
              rfl
            subst eb
            rw [e1] at i1
            cases i1
            obtain ⟨w, h7, h8⟩ := h6.get hd
            obtain ⟨s2, x2⟩ := s1.wlst ho h1 h5 (h6.eraseIdx n)
            exact ⟨b', ws, k, n, w, rfl, rfl, h5, hk.1, hk.2, by rw [h6.length]; exact hn, h7, hp w _ (x1.trans x2) s2 ((Stp.of x2).isD h8)⟩
          · exact hp.elim
        · exact hp.elim
      · exact hp.elim
    · exact hp.elim
  · exact o.elim
/-- x.pop() -/
def pop0 (i : Nat) : MD D := fun e => match e[i]? with
  | some (some (.lst ds)) => match ds[ds.length - 1]? with
    | some d => .ok (d, e.set i (some (.lst ds.dropLast)))
    | none => .bad
  | _ => .bad
theorem IsDs.dropLast {k : Kx} {H : Hp} {M : Addr → Prop} {ds : List D} {vs : List V} (h : IsDs k H M ds vs) : IsDs k H M ds.dropLast vs.dropLast := by
  rw [List.dropLast_eq_take, List.dropLast_eq_take, h.length]
  exact h.take _
theorem je_pop0 {cp ap : Pos} (ho : i ∈ C.own) (hN : X.N[i]? = some x) (hv : Vis X.env.scope x) (hd : (x == ("__debug__" : Str)) = false := by decide) (hcd : (x == ("__classdict__" : Str)) = false := by decide)
    (hbase : attributeBase (.Name x px) "pop" X.env (eval (.Name x px) X.env) = eval (.Name x px) X.env := by rfl) (hline : (ap.endLine == cp.line) = true := by rfl) :
    PE X (.Call (.Attribute (.Name x px) "pop" ap) [] [] cp) (tE C (pop0 i)) := by
  refine PE.imp (pe_bm0 PySem.F.plainAttrs_list PySem.F.slot_list_pop PySem.F.type_list_pop mt_pop (pe_var hN hv hd hcd) hbase hline) fun σ H Q ⟨e, s, o⟩ => ?_
  unfold pop0 at o
  split at o
  · rename_i ds h0
    split at o
    · rename_i d hd
      obtain ⟨b, vs, h1, h2, h3⟩ := own_lst s ho h0
      obtain ⟨w, h7, h8⟩ := h3.get hd
      obtain ⟨s2, x2⟩ := s.wlst ho h1 h2 h3.dropLast
      exact ⟨.ref b, h1, .inl ⟨rfl, vs, .inl (.inl h2)⟩, b, vs, w, rfl, rfl, h2, by rw [h3.length]; exact h7, o w _ x2 s2 ((Stp.of x2).isD h8)⟩
    · exact o.elim
  · exact o.elim
/-- x.insert(k, e) -/
def insK (i : Nat) (f g : MD D) : MD D := fun e => match e[i]? with
  | some (some (.lst _)) => (f e).bind fun p => (g p.2).bind fun q => match p.1, q.2[i]? with
    | .int k, some (some (.lst ds)) => if ds.length < sizeLine ∧ 0 ≤ k ∧ k < 2 ^ 63 then .ok (.non, q.2.set i (some (.lst (ds.take k.toNat ++ [q.1] ++ ds.drop k.toNat)))) else .bad
    | _, _ => .bad
  | _ => .bad
theorem je_insK {cp ap : Pos} (ho : i ∈ C.own) (hN : X.N[i]? = some x) (hv : Vis X.env.scope x) (he : PE X a (tE C f)) (he2 : PE X b (tE C g)) (hd : (x == ("__debug__" : Str)) = false := by decide) (hcd : (x == ("__classdict__" : Str)) = false := by decide)
    (hbase : attributeBase (.Name x px) "insert" X.env (eval (.Name x px) X.env) = eval (.Name x px) X.env := by rfl)
    (hfew : ((backTo cp (starEach [a, b] X.env)).all (fun x => !x.1) && (backToKw cp (keywordEach [] X.env)).all (fun x => x.1.isSome)
      && decide ([a, b].length + ([] : List Keyword).length + (if ([] : List Keyword).isEmpty then 0 else 1) < 30)) = true := by rfl)
    (hline : (ap.endLine == cp.line) = true := by rfl) (hs : starEach [a, b] X.env = (false, eval a X.env) :: starEach [b] X.env := by rfl) (hs2 : starEach [b] X.env = (false, eval b X.env) :: starEach [] X.env := by rfl) (hplain : (backTo cp (starEach [b] X.env)).any (·.1) = false := by rfl) :
    PE X (.Call (.Attribute (.Name x px) "insert" ap) [a, b] [] cp) (tE C (insK i f g)) := by
  refine PE.imp (pe_bm PySem.F.plainAttrs_list PySem.F.slot_list_insert PySem.F.type_list_insert mt_insert (pe_var hN hv hd hcd) (pa_cons he (pa_cons he2 pa_nil hs2) hs) hbase hfew hline hs hplain) fun σ H Q ⟨e, s, o⟩ => ?_
  unfold insK at o
  split at o
  · rename_i ds0 h0
    obtain ⟨b, vs, h1, h2, h3⟩ := own_lst s ho h0
    refine ⟨.ref b, h1, .inl ⟨rfl, vs, .inl (.inl h2)⟩, e, s, (Out.bind o).imp (fun p hp => ?_) fun _ _ z => z⟩
    intro v H1 x1 s1 i1
    refine ⟨p.2, s1, (Out.bind hp).imp (fun q hq => ?_) fun _ _ z => z.ext x1⟩
    intro w H2 x2 s2 i2
    split at hq
    · rename_i k ds e1 e2
      split at hq
      · rename_i hk
        obtain ⟨b', ws, h4, h5, h6⟩ := own_lst s2 ho e2
        have eb : b' = b := by
          rw [h1] at h4
          cases h4
          rfl
        subst eb
        rw [e1] at i1
        cases i1
        obtain ⟨s3, x3⟩ := s2.wlst ho h1 h5 (((h6.take k.toNat).app (.cons i2 .nil)).app (h6.drop k.toNat))
        exact ⟨b', ws, k, w, rfl, rfl, h5, by rw [h6.length]; exact hk.1, hk.2.1, hk.2.2, hq .non _ ((x1.trans x2).trans x3) s3 rfl⟩
      · exact hq.elim
    · exact hq.elim
  · exact o.elim

/-! ### list(range(..)) -/
def rngF (fa : MD (List D)) : MD (List D) := fun e => (fa e).bind fun q => match q.1 with
  | [.int j] => if -(2 ^ 62) ≤ j ∧ j < 2 ^ 62 ∧ j.toNat ≤ 2 ^ 24 then .ok (rngL 0 j.toNat, q.2) else .bad
  | _ => .bad
theorem rngV_isDs {k : Kx} {H : Hp} {M : Addr → Prop} (lo hi : Int) : IsDs k H M (rngL lo (hi - lo).toNat) (rgV lo hi) := by
  unfold rngL rgV
  have : ∀ l : List Nat, IsDs k H M (l.map fun (i : Nat) => D.int (lo + (i : Int))) (l.map fun (i : Nat) => V.int (lo + (i : Int))) := fun l => by
    induction l with
    | nil => exact rfl
    | cons n r ih => exact .cons rfl ih
  exact this _
def rngF1 (f : MD D) : MD (List D) := fun e => (f e).bind fun q => match q.1 with
  | .int j => if -(2 ^ 62) ≤ j ∧ j < 2 ^ 62 ∧ j.toNat ≤ 2 ^ 24 then .ok (rngL 0 j.toNat, q.2) else .bad
  | _ => .bad
theorem jf_lrng (hc : X.calm = true) (hgl : Gl X "list") (hml : X.mg "list" = none) (hg : Gl X "range") (hm : X.mg "range" = none) (ha : PE X a (tE C f)) (na : starEach [a] X.env = (false, eval a X.env) :: starEach [] X.env := by rfl)
    (na2 : starEach [(.Call (.Name "range" p) [a] [] p2 : Expr)] X.env = (false, eval (.Call (.Name "range" p) [a] [] p2) X.env) :: starEach [] X.env := by rfl) : PE X (.Call (.Name "list" px) [.Call (.Name "range" p) [a] [] p2] [] pos) (tF C (rngF1 f)) := by
  refine PE.imp (pe_listRg hc hgl hml (prg_1 hg hm ha na) na2) fun σ H Q ⟨e, s, o⟩ => ⟨e, s, (Out.bind o).imp (fun q hq => ?_) fun _ _ z => z⟩
  intro v H1 x1 s1 i1
  split at hq
  · rename_i j e1
    split at hq
    · rename_i hj
      rw [e1] at i1
      cases i1
      refine ⟨j, rfl, ⟨by decide, by decide, hj.1, hj.2.1, by simpa using hj.2.2⟩, fun l hl => ?_⟩
      have := hq (rgV 0 j) H1 l x1 s1 (by simpa using rngV_isDs (k := C.k) (H := H1) (M := MO C σ) 0 j) hl
      exact this
    · exact hq.elim
  · exact hq.elim

end
end Dn

namespace Dn
open PySem PySem.Spec PyProof.Rows L2
/-! ### x[::-1] -/
section
variable {prog : Program} {w : World} {A : Around} {E : Value → Shared → Prop} {s : Shared}
theorem places_rev (n : Nat) : Builtin.Slice.slicePlaces ((n : Int) - 1) (-1) (-1) = n := by
  unfold Builtin.Slice.slicePlaces
  rw [if_neg (by decide)]
  by_cases h : n = 0
  · subst h
    rfl
  · rw [if_pos (by omega)]
    show ((((n : Int) - 1 - -1 - 1) / 1) + 1).toNat = n
    rw [Int.ediv_one]
    omega
theorem adjust_rev (n : Int) : Builtin.Slice.sliceAdjust none none (-1) n = (n - 1, -1) := rfl
theorem pick_rev (xs : Array Value) : ((List.range xs.size).filterMap fun (m : Nat) => xs[(((xs.size : Nat) : Int) - 1 + (m : Int) * -1).toNat]?).toArray = xs.toList.reverse.toArray := by
  congr 1
  have h : ((List.range xs.size).filterMap fun (m : Nat) => xs[(((xs.size : Nat) : Int) - 1 + (m : Int) * -1).toNat]?) = ((List.range xs.size).map fun k => xs.size - 1 - k).filterMap (xs[·]?) := by
    rw [List.filterMap_map]
    have key : ∀ l : List Nat, (∀ m ∈ l, m < xs.size) → (l.filterMap fun (m : Nat) => xs[(((xs.size : Nat) : Int) - 1 + (m : Int) * -1).toNat]?) = l.filterMap ((fun x => xs[x]?) ∘ fun k => xs.size - 1 - k) := fun l => by
      induction l with
      | nil => intro _; rfl
      | cons m r ih =>
        intro hm
        have h1 := hm m (List.mem_cons_self ..)
        have e : (((xs.size : Nat) : Int) - 1 + (m : Int) * -1).toNat = xs.size - 1 - m := by omega
        rw [List.filterMap_cons, List.filterMap_cons, ih fun k hk => hm k (List.mem_cons_of_mem _ hk)]
        have e2 : ((fun x => xs[x]?) ∘ fun k => xs.size - 1 - k) m = xs[(((xs.size : Nat) : Int) - 1 + (m : Int) * -1).toNat]? := by
          rw [e] <;> rfl
        rw [e2]
    exact key _ fun m hm => List.mem_range.mp hm
  rw [h, PySem.W.krv_range, List.filterMap_reverse, PySem.W.krv_all]
theorem sliceApplied_rev {sl : Addr} {vs : Value} {n : Nat} {Q : Int × Int × Nat → Shared → Prop} (hs : s.heap.IsSliceOf sl .none .none vs) (ps : PySem.IsPart vs (some (-1)))
    (h : Q ((n : Int) - 1, -1, n) s) : wpAny (model prog w) A (Builtin.Slice.sliceApplied (.ref sl) (pure (n : Int))) Q E s := by
  obtain ⟨os, hos, hcs, hds⟩ := id hs
  unfold Builtin.Slice.sliceApplied Builtin.Slice.sliceFields
  refine wpAny_bind (wpAny_bind (wpAny_field hos hds (x := .none) rfl (wpAny_bind (wpAny_field hos hds (x := .none) rfl (wpAny_bind (wpAny_field hos hds (x := vs) rfl (wpAny_pure ?_)))))))
  refine wpAny_bind (HT.slicePart_ ps ?_)
  show wpAny _ _ (if ((-1 : Int) == 0) = true then _ else _) _ _ s
  rw [if_neg (by decide)]
  refine wpAny_bind (HT.slicePart_ .none (wpAny_bind (HT.slicePart_ .none (wpAny_bind (wpAny_pure ?_)))))
  show wpAny _ _ (match Builtin.Slice.sliceAdjust none none (-1) (n : Int) with | (lo, hi) => pure (lo, (-1 : Int), Builtin.Slice.slicePlaces lo hi (-1))) _ _ s
  rw [adjust_rev]
  show wpAny _ _ (pure ((n : Int) - 1, (-1 : Int), Builtin.Slice.slicePlaces ((n : Int) - 1) (-1) (-1))) _ _ s
  rw [places_rev]
  exact wpAny_pure h
theorem getItem_tuple_rev {t sl : Addr} {items : Array Value} {vs : Value} {Q : Value → Shared → Prop} (ht : IsTup s.heap t items) (hs : s.heap.IsSliceOf sl .none .none vs) (ps : PySem.IsPart vs (some (-1)))
    (h : Q (.ref s.heap.objs.size) { s with heap := s.heap.push { cls := .type "tuple", data := .seq items.toList.reverse.toArray } })
    (hsz : items.size ≤ sizeLine) : wpAny (model prog w) A (getItem (.ref t) (.ref sl)) Q E s := by
  have htake : sizeOk (.seq items.toList.reverse.toArray) := by
    show items.toList.reverse.toArray.size ≤ sizeLine
    rw [List.size_toArray, List.length_reverse, Array.length_toList]
    exact hsz
  obtain ⟨os, hos, hcs, hds⟩ := id hs
  have hTs : s.TypeIs (.ref sl) "slice" := ⟨os, hos, hcs⟩
  unfold getItem
  try with_reducible refine wpAny_holding ?_
  first | refine wpAny_bind (wpAny_pure ?_) | skip
  refine wpAny_bind (wpAny_sequenceKey ht.typeIs (by decide) ?_)
  refine wpAny_bind (wpAny_callSpecial?_slot (name := Str.ofString "__getitem__") ht.typeIs PyProof.Rows.slot_tuple_getitem
    (wpAny_call_entry PyProof.Rows.slot_tuple_getitem ht.typeIs entry_tuple_getitem ?_ (args_tuple_getitem _ _)))
  show wpAny _ _ (Builtin.Tuple.tupleItemsOf (.ref t) >>= _) _ _ s
  refine wpAny_bind (tupleItemsOf_ ht ?_)
  refine wpAny_bind (wpAny_typeOf hTs ?_)
  rw [if_pos (by decide)]
  refine wpAny_bind (sliceApplied_rev hs ps ?_)
  have hno : ¬ ((((items.size : Nat) : Int) - 1 == 0 && (-1 : Int) == 1 && items.size == items.size) = true) := by
    intro q
    rw [Bool.and_eq_true, Bool.and_eq_true] at q
    have q2 := q.1.2
    revert q2
    decide
  show wpAny _ _ (if (((items.size : Nat) : Int) - 1 == 0 && (-1 : Int) == 1 && items.size == items.size) = true then _ else _) _ _ s
  rw [if_neg hno, pick_rev]
  first
    | exact wpAny_bind (m := Builtin.Tuple.tupleExact _) (wpAny_newObj_type (wpAny_pure ⟨_, rfl, wpAny_pure h⟩) htake)
    | exact wpAny_bind (m := Builtin.Tuple.tupleExact _) (wpAny_newObj_type (wpAny_bind (wpAny_pure (wpAny_pure ⟨_, rfl, wpAny_pure h⟩))) htake)
    | exact wpAny_bind (wpAny_bind (m := Builtin.Tuple.tupleExact _) (wpAny_newObj_type (wpAny_pure (wpAny_pure ⟨_, rfl, wpAny_pure h⟩)) htake))
    | exact wpAny_bind (wpAny_bind (m := Builtin.Tuple.tupleExact _) (wpAny_newObj_type (wpAny_pure ⟨_, rfl, wpAny_pure h⟩) htake))
end
def revS (z : Str) : Str := ⟨z.cps.toList.reverse.toArray⟩
theorem strRev (z : Str) : ((Builtin.Str.strSliceIndices none none (-1) z.length).filterMap (z.cps[·]?)).toArray = z.cps.toList.reverse.toArray := by
  congr 1
  have e : Builtin.Str.strSliceIndices none none (-1) z.length = (List.range z.length).map fun k => z.length - 1 - k := by
    unfold Builtin.Str.strSliceIndices
    show sliceRange ((z.length : Int) - 1) (-1) (-1) = _
    exact PySem.W.krv_sliceRange _
  rw [e, PySem.W.krv_range, List.filterMap_reverse]
  have : (List.range z.length).filterMap (z.cps[·]?) = z.cps.toList := PySem.W.krv_all z.cps
  rw [this]
def rRev (K : PySem.W.Frag) : V → Hp → VK → Prop := fun x H Q => (∃ a xs, x = .ref a ∧ SqL K H a xs ∧ ∀ p, H p = none → Q (.ref p) (upd H p (.lst xs.reverse))) ∨ (∃ a xs, x = .ref a ∧ SqT K H a xs ∧ ∀ p, H p = none → Q (.ref p) (upd H p (.tup xs.reverse))) ∨ ∃ z, x = .str z ∧ z.length ≤ sizeLine ∧ Q (.str (revS z)) H
section
variable {X : Cx} {C : Ct}
theorem pe_rev {e : Expr} {te : TE} {k : Nat} {p1 p2 p3 pos : Pos} (he : PE X e te) : PE X (.Subscript e (.Slice none none (some (.UnaryOp .USub (.Constant (.int 1) k p1) p2)) p3) pos) (tUn (rRev X.K) te) := by
  refine ⟨fun pins s σ H Q I h => ?_⟩
  refine Subscript_ (thn (he.run pins s σ H _ I h) fun v s1 ⟨x, H1, I1, r1, q1⟩ => ?_)
  have hst : PO X (some (.UnaryOp .USub (.Constant (.int 1) k p1) p2)) (tPart (tUn (rU fun i => .int (-i)) (tC (.int 1)))) := po_some (pe_un un_neg pe_int)
  refine wpAny_Slice (thn (po_none.run pins s1 σ H1 (fun o H2 => o = none ∧ H2 = H1) I1 ⟨rfl, rfl⟩) fun vl s2 ⟨l, H2, I2, pl, el, e2⟩ => ?_)
  subst el e2
  refine thn (po_none.run pins s2 σ H2 (fun o H3 => o = none ∧ H3 = H2) I2 ⟨rfl, rfl⟩) fun vu s3 ⟨u, H3, I3, pu, eu, e3⟩ => ?_
  subst eu e3
  refine thn (hst.run pins s3 σ H3 (fun o H4 => o = some (-1) ∧ H4 = H3) I3 ⟨1, rfl, -1, rfl, rfl, rfl⟩) fun vs s4 ⟨o, H4, I4, ps, eo, e4⟩ => ?_
  subst eo e4
  have I5 : Inv X pins σ H4 { s4 with heap := s4.heap.push { cls := .type "slice", data := .fields #[vl, vu, vs] } } := I4.kept (t' := s4.toks) fun b ob q => Heap.get?_push_of_some _ q
  have evl : vl = .none := by cases pl; rfl
  have evu : vu = .none := by cases pu; rfl
  subst evl evu
  show wpAny (model X.prog X.w) X.A (subscriptTail e (.Slice none none (some (.UnaryOp .USub (.Constant (.int 1) k p1) p2)) p3) v (.ref s4.heap.objs.size)) (EP X pins σ Q) X.xe { s4 with heap := s4.heap.push { cls := .type "slice", data := .fields #[.none, .none, vs] } }
  rcases q1 with ⟨a, xs, rfl, hx, q⟩ | ⟨a, xs, rfl, hx, q⟩ | ⟨z, rfl, hz, q⟩
  · cases r1
    obtain ⟨its, r, ht, hz⟩ := I5.list hx
    have hlen := r.length
    refine tail_any (ops := [.ref a, .ref s4.heap.objs.size]) ht.isList.typeIs (PySem.slot_list_getitem.lookup) ?_ (by with_unfolding_all rfl)
    refine wpAny_getItem_list_slice ht.isList (Heap.IsSliceOf.new _ .none .none vs) pl pu ps (by decide) ?_ (by rw [List.size_toArray]; omega)
    rw [PySem.W.krv_pick]
    refine ⟨.ref _, _, I5.laid (t' := s4.toks) (o := .lst xs.reverse) (fun b ob q => Heap.get?_push_of_some _ q) (Nat.le_refl _) ?_, rfl, q _ (I5.hok.fresh (Nat.le_refl _))⟩
    exact ⟨by rw [List.length_reverse]; exact hz, _, 0, r.reverse, Heap.get?_push_size _ rfl⟩
  · cases r1
    obtain ⟨its, r, ht, hz⟩ := I5.tuple hx
    have hlen := r.length
    refine tail_any (ops := [.ref a, .ref s4.heap.objs.size]) ht.typeIs (PyProof.Rows.slot_tuple_getitem.lookup) ?_ (by with_unfolding_all rfl)
    refine getItem_tuple_rev ht (Heap.IsSliceOf.new _ .none .none vs) ps ?_ (by rw [List.size_toArray]; omega)
    refine ⟨.ref _, _, I5.laid (t' := s4.toks) (o := .tup xs.reverse) (fun b ob q => Heap.get?_push_of_some _ q) (Nat.le_refl _) ?_, rfl, q _ (I5.hok.fresh (Nat.le_refl _))⟩
    exact ⟨by rw [List.length_reverse]; exact hz, _, r.reverse, _, Heap.get?_push_size _ rfl, rfl, 0, rfl⟩
  · obtain ⟨t, rfl⟩ := r1
    obtain ⟨st, rfl, hst'⟩ := IsPart.raw ps
    refine tail_any (ops := [.ref s4.heap.objs.size, .str z t]) (typeIs_str _ _ _) F.slot_str_getitem.lookup ?_ (by with_unfolding_all rfl)
    refine wpAny_getItem_str_slice (l := none) (u := none) (st := st) ⟨_, Heap.get?_push_size _ rfl, rfl, rfl⟩ (by rw [hst']; rfl) ?_
    have e1 : PySem.sliceMade z t none none st = Made.str (revS z) := by
      unfold PySem.sliceMade
      rw [if_neg (by rw [hst']; simp)]
      congr 1
      unfold PySem.slicePicked
      rw [hst']
      exact congrArg Str.mk (strRev z)
    rw [e1]
    exact ⟨by
      show (revS z).cps.size ≤ sizeLine
      unfold revS
      rw [List.size_toArray, List.length_reverse, Array.length_toList]
      exact hz, .str _, _, I5.tok _, ⟨_, rfl⟩, q⟩
def revD : D → R D
  | .lst ds => .ok (.lst ds.reverse)
  | .tup ds => .ok (.tup ds.reverse)
  | .str z => if z.length ≤ sizeLine then .ok (.str (revS z)) else .bad
  | _ => .bad
theorem revD_nx (a : D) (y : Ex) (l : Lc) : revD a ≠ .exc y l := by
  unfold revD
  split <;> (try split) <;> simp
theorem und_rev : UnD C (rRev C.k.K) revD := by
  intro σ e H x d1 Q s i1 q
  unfold revD at q
  split at q
  · obtain ⟨a, vs, rfl, h1, h2⟩ := i1
    exact .inl ⟨a, vs, rfl, .inl (.inl h1), fun p hp => q.lst s hp h2.rev⟩
  · obtain ⟨a, vs, rfl, h1, h2⟩ := i1
    exact .inr (.inl ⟨a, vs, rfl, h1, fun p hp => q.tup (e := e) hp h2.rev⟩)
  · split at q
    · rename_i hz
      cases i1
      exact .inr (.inr ⟨_, rfl, hz, q.val rfl⟩)
    · exact q.elim
  · exact q.elim
theorem je_rev {e : Expr} {f : MD D} {k : Nat} {p1 p2 p3 pos : Pos} (hK : C.k.K = X.K) (he : PE X e (tE C f)) : PE X (.Subscript e (.Slice none none (some (.UnaryOp .USub (.Constant (.int 1) k p1) p2)) p3) pos) (tE C (un1 revD f)) := by
  refine PE.imp (pe_rev he) fun σ H Q h => ?_
  rw [← hK]
  exact tE_un und_rev revD_nx σ H Q h
end
end Dn

namespace Dn
open PySem PySem.Spec PyProof.Rows L2
section
variable {X : Cx} {C : Ct} {a b c : Expr} {es : List Expr} {pos p p2 px : Pos} {f g : MD D} {fa : MD (List D)} {i : Nat} {x y : Str}
/-! ### is True -/
def isB : D → D → R D
  | .bl x, .bl y => .ok (.bl (decide (x = y)))
  | _, _ => .bad
def isNB : D → D → R D
  | .bl x, .bl y => .ok (.bl (!decide (x = y)))
  | _, _ => .bad
theorem isB_nx (a b : D) (y : Ex) (l : Lc) : isB a b ≠ .exc y l := by
  unfold isB
  split <;> simp
theorem isNB_nx (a b : D) (y : Ex) (l : Lc) : isNB a b ≠ .exc y l := by
  unfold isNB
  split <;> simp
theorem opd_isB : OpD C rIsB isB := by
  intro σ e H x y d1 d2 Q s i1 i2 q
  unfold isB at q
  split at q
  · cases i1
    cases i2
    exact ⟨_, _, rfl, rfl, q.val rfl⟩
  · exact q.elim
theorem opd_isNB : OpD C rNotB isNB := by
  intro σ e H x y d1 d2 Q s i1 i2 q
  unfold isNB at q
  split at q
  · cases i1
    cases i2
    exact ⟨_, _, rfl, rfl, q.val rfl⟩
  · exact q.elim

/-! ### t == (), t != () -/
def rNeT0 (K : PySem.W.Frag) : R2 := fun x y H Q => ∃ a b xs, x = .ref a ∧ y = .ref b ∧ SqT K H a xs ∧ SqT K H b [] ∧ Q (.bl (!xs.isEmpty)) H
theorem op_neT0 (hu : X.A.units + 64 < cLine) : OpR X (compareOp .NotEq) (rNeT0 X.K) := by
  intro pins s σ H x y v u Q I rx ry h
  obtain ⟨a, b, xs, rfl, rfl, h1, h2, q⟩ := h
  cases rx
  cases ry
  obtain ⟨its, r, ht, hz⟩ := I.tuple h1
  obtain ⟨its2, r2, ht2, hz2⟩ := I.tuple h2
  cases r2
  have key := PySem.SeqAt.RcNeAt.tuples (A := X.A) (s := s) (l := a) (b := b) (items := its.toArray) (items2 := #[]) (e := fun _ => true) ht ht2 (by omega) (fun j _ h => by simp at h)
  refine key X.prog X.w X.xe _ ⟨.bl (!xs.isEmpty), H, I, ?_, q⟩
  have hl := r.length
  cases xs <;> cases its <;> simp_all <;> rfl
def neT0 (a b : D) : R D := match a, b with
  | .tup xs, .tup [] => .ok (.bl (!xs.isEmpty))
  | _, _ => .bad
theorem neT0_nx (a b : D) (y : Ex) (l : Lc) : neT0 a b ≠ .exc y l := by
  unfold neT0
  split <;> simp
theorem opd_neT0 : OpD C (rNeT0 C.k.K) neT0 := by
  intro σ e H x y d1 d2 Q s i1 i2 q
  unfold neT0 at q
  split at q
  · rename_i xs
    obtain ⟨a, vs, rfl, h1, h2⟩ := i1
    obtain ⟨b, ws, rfl, h3, h4⟩ := i2
    rw [show ws = [] from h4] at h3
    refine ⟨a, b, vs, rfl, rfl, h1, h3, ?_⟩
    rw [← isEmpty_ds h2]
    exact q.val rfl
  · exact q.elim

/-! ### upper -/
def upD : D → R D
  | .str z => if z.length ≤ 5592405 then .ok (.str (Txt.upper z)) else .bad
  | _ => .bad
theorem upD_nx (a : D) (y : Ex) (l : Lc) : upD a ≠ .exc y l := by
  unfold upD
  split <;> (try split) <;> simp
theorem je_upper {apos : Pos} (ha : PE X a (tE C f)) (hbase : attributeBase a "upper" X.env (eval a X.env) = eval a X.env := by rfl) (hline : (apos.endLine == pos.line) = true := by rfl) : PE X (.Call (.Attribute a "upper" apos) [] [] pos) (tE C (un1 upD f)) := by
  refine PE.imp (pe_upper ha hbase hline) fun σ H Q ⟨e, s, o⟩ => ⟨e, s, (Out.bind o).imp (fun p hp => ?_) fun _ _ z => z⟩
  obtain ⟨d, e1⟩ := p
  intro v H1 x1 s1 i1
  cases d with
  | str z =>
    cases i1
    have hp2 : Out (PO1 C σ H Q) (XO C σ H) ((if z.length ≤ 5592405 then R.ok (D.str (Txt.upper z)) else .bad).at e1) := hp
    by_cases hz : z.length ≤ 5592405
    · rw [if_pos hz] at hp2
      exact ⟨⟨z, rfl⟩, z, rfl, rfl, hz, hp2 _ H1 x1 s1 rfl⟩
    · rw [if_neg hz] at hp2
      exact hp2.elim
  | _ => exact hp.elim

/-! ### zip of two lists, of two tuples -/
def zipL : List D → List D → List D
  | x :: xs, y :: ys => .tup [x, y] :: zipL xs ys
  | _, _ => []
theorem zipL_get : ∀ (xs ys : List D) (i : Nat), (zipL xs ys)[i]? = match xs[i]?, ys[i]? with
    | some x, some y => some (.tup [x, y])
    | _, _ => none
  | [], ys, i => by simp [zipL]
  | x :: xs, [], i => by
    simp [zipL]
  | x :: xs, y :: ys, 0 => by simp [zipL]
  | x :: xs, y :: ys, i + 1 => by
    simp only [zipL, List.getElem?_cons_succ]
    exact zipL_get xs ys i
theorem zipL_len : ∀ (xs ys : List D), (zipL xs ys).length = min xs.length ys.length
  | [], ys => by simp [zipL]
  | x :: xs, [] => by simp [zipL]
  | x :: xs, y :: ys => by
    simp only [zipL, List.length_cons, zipL_len xs ys]
    omega
def zipM (fa : MD (List D)) : MD (List D) := fun e => (fa e).bind fun q => match q.1 with
  | [.lst xs, .lst ys] => .ok (zipL xs ys, q.2)
  | [.tup xs, .tup ys] => .ok (zipL xs ys, q.2)
  | _ => .bad
theorem zip_item {M' : Addr → Prop} {H2 : Hp} {d1 d2 d' : D} {x1 x2 : V} {T : Addr} (hT : H2 T = none) (h1 : IsD C.k H2 M' d1 x1) (h2 : IsD C.k H2 M' d2 x2) (he : d' = D.tup [d1, d2]) : Same H2 (upd H2 T (.tup [x1, x2])) ∧ IsD C.k (upd H2 T (.tup [x1, x2])) M' d' (.ref T) := by
  subst he
  exact ⟨same_upd' hT, IsD.newT' hT (.cons h1 (.cons h2 .nil))⟩
theorem itd_zip {K : PySem.W.Frag} {σ : L2.St} {H : Hp} {ds es : List D} {J : It} {vs ws : List V} (Rv Rw : Hp → List V → Prop)
    (r1 : ∀ H2, Ext (MO C σ) H H2 → Rv H2 vs) (r2 : ∀ H2, Ext (MO C σ) H H2 → Rw H2 ws) (h2 : IsDs C.k H (MO C σ) ds vs) (h4 : IsDs C.k H (MO C σ) es ws)
    (hg : ∀ i H, J.go i H = ∃ (xs ys : List V) (x y : V), Rv H xs ∧ Rw H ys ∧ xs[i]? = some x ∧ ys[i]? = some y)
    (hy : ∀ i H v H', J.yld i H v H' = ∃ T x y, v = .ref T ∧ H T = none ∧ H' = upd H T (.tup [x, y]) ∧ (∀ xs, Rv H xs → xs[i]? = some x) ∧ ∀ ys, Rw H ys → ys[i]? = some y)
    (hs : ∀ i H, J.stop i H = ∃ xs ys : List V, Rv H xs ∧ Rw H ys ∧ (xs.length ≤ i ∨ ys.length ≤ i)) : ItD C σ H (zipL ds es) J := by
  have split : ∀ {i d}, (zipL ds es)[i]? = some d → ∃ d1 d2, ds[i]? = some d1 ∧ es[i]? = some d2 ∧ d = D.tup [d1, d2] := fun {i d} h => by
    rw [zipL_get] at h
    cases e1 : ds[i]? with
    | none => rw [e1] at h; cases h
    | some d1 =>
      cases e2 : es[i]? with
      | none => rw [e1, e2] at h; cases h
      | some d2 =>
        rw [e1, e2] at h
        exact ⟨d1, d2, e1, e2, (Option.some.inj h).symm⟩
  refine ⟨fun H2 i d x hd => ?_, fun H2 M' i d x H3 xx mm hd hyy => ?_, fun H2 x => ?_⟩
  · obtain ⟨d1, d2, e1, e2, _⟩ := split hd
    obtain ⟨v, hv, _⟩ := h2.get e1
    obtain ⟨w, hw, _⟩ := h4.get e2
    rw [hg]
    exact ⟨vs, ws, v, w, r1 H2 x, r2 H2 x, hv, hw⟩
  · rw [hy] at hyy
    obtain ⟨T, u1, u2, rfl, hT, rfl, hx1, hx2⟩ := hyy
    obtain ⟨d1, d2, e1, e2, e3⟩ := split hd
    obtain ⟨v, hv, iv⟩ := (IsDs.step xx mm _ _ h2).get e1
    obtain ⟨w, hw, iw⟩ := (IsDs.step xx mm _ _ h4).get e2
    have z1 := hx1 vs (r1 _ xx)
    have z2 := hx2 ws (r2 _ xx)
    rw [hv] at z1
    rw [hw] at z2
    cases z1
    cases z2
    exact zip_item hT iv iw e3
  · rw [hs]
    refine ⟨vs, ws, r1 H2 x, r2 H2 x, ?_⟩
    rw [zipL_len, h2.length, h4.length]
    omega
theorem ji_zip {elts : List Expr} {kk : Nat} {tpos : Pos} (hK : C.k.K = X.K) (hg : Gl X "zip") (hm : X.mg "zip" = none) (ha : PA X [a, b] (tA C fa))
    (hs : starEach [a, b] X.env = (false, eval a X.env) :: starEach [b] X.env := by rfl) (hpl : (backTo pos (starEach [b] X.env)).any (·.1) = false := by rfl) : PI X (.Tuple elts kk tpos) (.Call (.Name "zip" p) [a, b] [] pos) (tI C (zipM fa)) := by
  refine PI.imp (RZ.pi_zipA hg hm ha hs hpl) fun σ H R ⟨e, s, o⟩ => ⟨e, s, (Out.bind o).imp (fun q hq => ?_) fun _ _ z => z⟩
  rw [← hK]
  intro us H1 x1 s1 i1
  split at hq
  · rename_i xs ys e1
    rw [e1] at i1
    obtain ⟨v, r, rfl, ⟨l1, vs, rfl, h1, n1, h2⟩, ⟨w, r', e2, ⟨l2, ws, rfl, h3, n2, h4⟩, h5⟩⟩ := i1
    rw [show r' = [] from h5] at e2
    subst e2
    refine ⟨l1, l2, vs, ws, rfl, .inl ⟨.inl (.inl h1), .inl (.inl h3), hq _ H1 x1 s1 (itd_zip (K := C.k.K) (fun H xs => SqL C.k.K H l1 xs) (fun H xs => SqL C.k.K H l2 xs) (fun H2 x => .inl (.inl (x l1 _ h1 (.inl n1)))) (fun H2 x => .inl (.inl (x l2 _ h3 (.inl n2)))) h2 h4 (fun _ _ => rfl) (fun _ _ _ _ => rfl) (fun _ _ => rfl))⟩⟩
  · rename_i xs ys e1
    rw [e1] at i1
    obtain ⟨v, r, rfl, ⟨l1, vs, rfl, h1, h2⟩, ⟨w, r', e2, ⟨l2, ws, rfl, h3, h4⟩, h5⟩⟩ := i1
    rw [show r' = [] from h5] at e2
    subst e2
    refine ⟨l1, l2, vs, ws, rfl, .inr ⟨h1, h3, hq _ H1 x1 s1 (itd_zip (K := C.k.K) (fun H xs => SqT C.k.K H l1 xs) (fun H xs => SqT C.k.K H l2 xs) (fun H2 x => x.sqT h1) (fun H2 x => x.sqT h3) h2 h4 (fun _ _ => rfl) (fun _ _ _ _ => rfl) (fun _ _ => rfl))⟩⟩
  · exact hq.elim

/-! ### {} -/
theorem je_dct0 : PE X (.Dict [] [] pos) (tE C (cst (.dct [] []))) := by
  refine PE.imp pe_dnewK fun σ H Q ⟨e, s, o⟩ => fun p hp => ?_
  exact o (.ref p) _ (Ext.upd hp) (s.grow hp) ⟨p, [], rfl, upd_same, s.fresh hp, rfl, rfl⟩

/-! ### a dict of the module, text keys -/
/-- what is known of it: the keys asked for, and what stands there -/
structure KTab (k : Kx) (w : World) (d : Addr) (tbl : List (Str × Option D)) : Prop where
  kd : ∃ es n, KDict k.K w d es n
  get : ∀ q ∈ tbl, match q.2 with
    | none => PySem.W.nsIn k.K d q.1 = some none
    | some r => ∃ u v, PySem.W.nsIn k.K d q.1 = some (some u) ∧ RelV v u ∧ ∀ H M, IsD k H M r v
def lookS (tbl : List (Str × Option D)) (z : Str) : Option (Option D) := (tbl.find? fun q => decide (q.1 = z)).map (·.2)
theorem lookS_mem {tbl : List (Str × Option D)} {z : Str} {r : Option D} (h : lookS tbl z = some r) : (z, r) ∈ tbl := by
  unfold lookS at h
  cases e : tbl.find? fun q => decide (q.1 = z) with
  | none => rw [e] at h; cases h
  | some q =>
    rw [e] at h
    have h1 := List.mem_of_find?_eq_some e
    have h2 := of_decide_eq_true (List.find?_some (p := fun q : Str × Option D => decide (q.1 = z)) e)
    have h3 : q.2 = r := Option.some.inj h
    have : q = (z, r) := by rw [← h2, ← h3]
    rwa [← this]
def inKt (neg : Bool) (tbl : List (Str × Option D)) : D → R D
  | .str z => match lookS tbl z with
    | some r => .ok (.bl (if neg then !r.isSome else r.isSome))
    | none => .bad
  | _ => .bad
def getKt (tbl : List (Str × Option D)) : D → R D
  | .str z => match lookS tbl z with
    | some (some r) => .ok r
    | _ => .bad
  | _ => .bad
theorem je_inK {d : Addr} {tbl : List (Str × Option D)} (hK : C.k.K = X.K) (T : KTab C.k X.w d tbl) (hg : Gl X x) (hm : X.mg x = some (.ref d)) (ha : PE X a (tE C f)) (hdb : (x == ("__debug__" : Str)) = false := by decide) (hmk : behindInMarks .In (.Name x px) = false := by rfl) : PE X (.Compare a [.In] [.Name x px] pos) (tE C (un1 (inKt false tbl) f)) := by
  obtain ⟨es, n, kd⟩ := T.kd
  have kd' : KDict X.K X.w d es n := by
    rw [← hK]
    exact kd
  refine PE.imp (pe_cmpR (op_in_kd kd') ha (pe_glob (v := .ref d) hg hm rfl hdb) hmk) fun σ H Q ⟨e, s, o⟩ => ⟨e, s, (Out.bind o).imp (fun q hq => ?_) fun _ _ z => z⟩
  intro v H1 x1 s1 i1
  unfold inKt at hq
  split at hq
  · rename_i z e1
    rw [e1] at i1
    cases i1
    split at hq
    · rename_i r hr
      have h2 := T.get _ (lookS_mem hr)
      cases r with
      | none => exact ⟨z, none, rfl, rfl, by rw [← hK]; exact h2, hq _ H1 x1 s1 rfl⟩
      | some r =>
        obtain ⟨u, v, h3, _⟩ := h2
        exact ⟨z, some u, rfl, rfl, by rw [← hK]; exact h3, hq _ H1 x1 s1 rfl⟩
    · exact hq.elim
  · exact hq.elim
theorem je_notInK {d : Addr} {tbl : List (Str × Option D)} (hK : C.k.K = X.K) (T : KTab C.k X.w d tbl) (hg : Gl X x) (hm : X.mg x = some (.ref d)) (ha : PE X a (tE C f)) (hdb : (x == ("__debug__" : Str)) = false := by decide) (hmk : behindInMarks .NotIn (.Name x px) = false := by rfl) : PE X (.Compare a [.NotIn] [.Name x px] pos) (tE C (un1 (inKt true tbl) f)) := by
  obtain ⟨es, n, kd⟩ := T.kd
  have kd' : KDict X.K X.w d es n := by
    rw [← hK]
    exact kd
  refine PE.imp (pe_cmpR (op_notIn_kd kd') ha (pe_glob (v := .ref d) hg hm rfl hdb) hmk) fun σ H Q ⟨e, s, o⟩ => ⟨e, s, (Out.bind o).imp (fun q hq => ?_) fun _ _ z => z⟩
  intro v H1 x1 s1 i1
  unfold inKt at hq
  split at hq
  · rename_i z e1
    rw [e1] at i1
    cases i1
    split at hq
    · rename_i r hr
      have h2 := T.get _ (lookS_mem hr)
      cases r with
      | none => exact ⟨z, none, rfl, rfl, by rw [← hK]; exact h2, hq _ H1 x1 s1 rfl⟩
      | some r =>
        obtain ⟨u, v, h3, _⟩ := h2
        exact ⟨z, some u, rfl, rfl, by rw [← hK]; exact h3, hq _ H1 x1 s1 rfl⟩
    · exact hq.elim
  · exact hq.elim
theorem ix_kt {d : Addr} {es : Array DictEntry} {n : Nat} (D : KDict X.K X.w d es n) : IxR X (fun x y H Q => ∃ (z : Str) (u0 : Value) (v0 : V), x = .ref d ∧ y = .str z ∧ PySem.W.nsIn X.K d z = some (some u0) ∧ RelV v0 u0 ∧ Q v0 H) := by
  intro value slice pins s σ H x y v u Q I rx ry h hs
  obtain ⟨z, u0, v0, rfl, rfl, e, r, q⟩ := h
  cases rx
  obtain ⟨t, rfl⟩ := ry
  have hm := PySem.W.mapOf_K (prog := X.prog) (w := X.w) I.kIn D.at_ D.lit
  exact tail_any hm.typeIs slot_dict_getitem.lookup (wpAny_getItem_of (PySem.strKind_is X.prog X.w z t) hm (PySem.W.find_K D.at_ e) ⟨v0, H, I.tok _, r, q⟩) hs
theorem je_ixK {d : Addr} {tbl : List (Str × Option D)} (hK : C.k.K = X.K) (T : KTab C.k X.w d tbl) (hg : Gl X x) (hm : X.mg x = some (.ref d)) (hsx : PlainIx a) (ha : PE X a (tE C f)) (hdb : (x == ("__debug__" : Str)) = false := by decide) : PE X (.Subscript (.Name x px) a pos) (tE C (un1 (getKt tbl) f)) := by
  obtain ⟨es, n, kd⟩ := T.kd
  have kd' : KDict X.K X.w d es n := by
    rw [← hK]
    exact kd
  refine PE.imp (pe_ix (ix_kt kd') (pe_glob (v := .ref d) hg hm rfl hdb) ha hsx) fun σ H Q ⟨e, s, o⟩ => ⟨e, s, (Out.bind o).imp (fun q hq => ?_) fun _ _ z => z⟩
  intro v H1 x1 s1 i1
  unfold getKt at hq
  split at hq
  · rename_i z e1
    rw [e1] at i1
    cases i1
    split at hq
    · rename_i r hr
      obtain ⟨u, v, h3, h4, h5⟩ := T.get _ (lookS_mem hr)
      exact ⟨z, u, v, rfl, rfl, by rw [← hK]; exact h3, h4, hq _ H1 x1 s1 (h5 _ _)⟩
    · exact hq.elim
  · exact hq.elim

/-! ### a call of the def that a name of the def's own holds -/
def calA (T : Nat → Option (List D → R D)) (i : Nat) (fa : MD (List D)) : MD D := fun e => match e[i]? with
  | some (some (.fn j)) => match T j with
    | some F => (fa e).bind fun p => (noX (F p.1)).at p.2
    | none => .bad
  | _ => .bad
structure HeldG (P : Program) (w : World) (K : PySem.W.Frag) (mg : Str → Option Value) (base : Heap) (lv : Nat) (f : Addr) (sp : Sp) : Prop where
  ex : ∃ (fd : FuncData) (ps : List Str), FnG P w K mg base (fun _ _ _ _ _ _ => False) lv f fd ps sp ∧ PySem.W.keepIn K (.ref f) = true ∧ L2.Binds K fd ps []
theorem je_callA {lv n : Nat} {T : Nat → Option (List D → R D)} (A : ∀ j F f, T j = some F → C.k.fn j = some f → HeldG X.prog X.w X.K X.mg X.base lv f (spP C.k n false F)) (hr : RoomG lv X.A) (hi : i ∉ C.own) (hN : X.N[i]? = some x) (hv : Vis X.env.scope x)
    (hl : (a :: es).length = n) (hlen : ∀ e r, fa e = .ok r → r.1.length = (a :: es).length) (ha : PA X (a :: es) (tA C fa)) (hdb : (x == ("__debug__" : Str)) = false := by decide) (hcd : (x == ("__classdict__" : Str)) = false := by decide)
    (he : starEach (a :: es) X.env = (false, eval a X.env) :: starEach es X.env := by rfl) (hpl : (backTo pos (starEach es X.env)).any (·.1) = false := by rfl) : PE X (.Call (.Name x p) (a :: es) [] pos) (tE C (calA T i fa)) := by
  have h0 : ∀ m : { m : Nat × (List D → R D) × Addr // T m.1 = some m.2.1 ∧ C.k.fn m.1 = some m.2.2 }, PE X (.Call (.Name x p) (a :: es) [] pos) (fun σ H Q => σ[i]? = some (some (.ref m.1.2.2)) ∧ tA C fa σ H fun vs H1 => spP C.k n false m.1.2.1 (vs ++ []) H1 Q (fun _ _ _ => False)) := fun m => by
    obtain ⟨fd, ps, F, hk, hb⟩ := (A _ _ _ m.2.1 m.2.2).ex
    exact pe_atL (F.at hr) hN hv hk hb .nil (fun _ _ _ _ _ _ _ z => z.elim) ha hdb hcd he hpl
  refine PE.imp (PE.exM h0) fun σ H Q ⟨e, s, o⟩ => ?_
  unfold calA at o
  split at o
  · rename_i j hj
    split at o
    · rename_i F hT
      obtain ⟨v, h1, h2⟩ := s.val i _ hi hj
      obtain ⟨f, rfl, h3⟩ := h2
      refine ⟨⟨(j, F, f), hT, h3⟩, h1, e, s, ?_⟩
      have o1 := Out.bind o
      cases e0 : fa e with
      | bad =>
        rw [e0] at o1
        exact o1.elim
      | exc z l =>
        rw [e0] at o1
        exact o1
      | ok q =>
        rw [e0] at o1
        intro vs H1 x1 s1 i1
        have hq := hlen e q e0
        refine ⟨MO C σ, q.1, ?_, by rw [List.append_nil]; exact i1, fun b z => s1.mod z, ?_⟩
        · rw [List.append_nil, i1.length, hq]
          exact hl
        · have o2 : Out (PO1 C σ H Q) (XO C σ H) ((noX (F q.1)).at q.2) := o1
          show PFn C.k false (MO C σ) H1 Q (fun _ _ _ => False) (F q.1)
          cases e1 : F q.1 with
          | bad =>
            rw [e1] at o2
            exact o2.elim
          | exc z l =>
            rw [e1] at o2
            exact o2.elim
          | ok d =>
            rw [e1] at o2
            exact fun v H2 k2 iv _ => o2 v H2 (x1.trans (same_ext k2)) (s1.same k2) iv
    · exact o.elim
  · exact o.elim
end
end Dn

namespace Dn
open PySem PySem.Spec PyProof.Rows L2
/-! ### [e for a in xs for b in ys] -/
def lcS2 (vs vs1 : List Nat) (g : GD) (t : MD Bool) (f1 : MD (List D)) (g1 : GD) (t1 : MD Bool) (el : MD D) : List D → Nat → Lc → R (List D × Lc)
  | [], _, e => .ok ([], e)
  | d :: ds, n, e => (noX (g d e)).bind fun e1 => (noX (t e1)).bind fun p => match p.1 with
    | true => (noX (f1 p.2)).bind fun q => if n + q.1.length ≤ sizeLine then (lcS vs1 g1 t1 el q.1 (wipeL q.2 vs1)).bind fun r => (lcS2 vs vs1 g t f1 g1 t1 el ds (n + r.1.length) (wipeL r.2 vs)).bind fun r2 => .ok (r.1 ++ r2.1, r2.2) else .bad
    | false => lcS2 vs vs1 g t f1 g1 t1 el ds n (wipeL p.2 vs)
def lcM2 (vs vs1 : List Nat) (f : MD (List D)) (g : GD) (t : MD Bool) (f1 : MD (List D)) (g1 : GD) (t1 : MD Bool) (el : MD D) : MD (List D) := fun e => (f e).bind fun p => (lcS2 vs vs1 g t f1 g1 t1 el p.1 0 (wipeL p.2 vs)).bind fun q => .ok (q.1, keepL p.2 q.2 vs)
theorem lcS2_nx {vs vs1 : List Nat} {g : GD} {t : MD Bool} {f1 : MD (List D)} {g1 : GD} {t1 : MD Bool} {el : MD D} : ∀ (ds : List D) (n : Nat) (e : Lc) (x : Ex) (l : Lc), lcS2 vs vs1 g t f1 g1 t1 el ds n e ≠ .exc x l
  | [], n, e, x, l => by simp [lcS2]
  | d :: ds, n, e, x, l => by
    unfold lcS2
    cases e0 : noX (g d e) with
    | bad => simp
    | exc y z => exact absurd e0 (noX_nx _ _ _)
    | ok e1 =>
      rw [R.bind_ok]
      cases e2 : noX (t e1) with
      | bad => simp
      | exc y z => exact absurd e2 (noX_nx _ _ _)
      | ok p =>
        rw [R.bind_ok]
        split
        · cases e3 : noX (f1 p.2) with
          | bad => simp
          | exc y z => exact absurd e3 (noX_nx _ _ _)
          | ok q =>
            rw [R.bind_ok]
            split
            · cases e4 : lcS vs1 g1 t1 el q.1 (wipeL q.2 vs1) with
              | bad => simp
              | exc y z => exact absurd e4 (lcS_nx _ _ _ _)
              | ok r =>
                rw [R.bind_ok]
                cases e5 : lcS2 vs vs1 g t f1 g1 t1 el ds (n + r.1.length) (wipeL r.2 vs) with
                | bad => simp
                | exc y z => exact absurd e5 (lcS2_nx _ _ _ _ _)
                | ok r2 => simp
            · simp
        · exact lcS2_nx _ _ _ _ _
/-- within the block: the new list at q -/
structure LcP (C : Ct) (σ : L2.St) (q : Addr) (H1 : Hp) (e' : Lc) (acc : List D) (τ : L2.St) (H' : Hp) : Prop where
  lst : ∃ accV, H' q = some (.lst accV) ∧ IsDs C.k H' (MO (C.b fun a => C.M a ∨ a = q) τ) acc accV
  ext : ∀ a u, H1 a = some u → (¬ OW C σ a ∨ Fx u) → H' a = some u
  sr : SR (C.b fun a => C.M a ∨ a = q) e' τ H'
  ow : OW (C.b fun a => C.M a ∨ a = q) τ = OW C σ
section
variable {C : Ct} {σ τ τ' : L2.St} {q : Addr} {H1 H H' : Hp} {e e' : Lc} {acc : List D}
theorem LcP.mo (p : LcP C σ q H1 e acc τ H) (ho : OW (C.b fun a => C.M a ∨ a = q) τ' = OW C σ) : MO (C.b fun a => C.M a ∨ a = q) τ' = MO (C.b fun a => C.M a ∨ a = q) τ := MO_of (ho.trans p.ow.symm)
theorem LcP.nq (p : LcP C σ q H1 e acc τ H) (hqp : C.par ≠ some q) : ¬ OW (C.b fun a => C.M a ∨ a = q) τ q := fun ⟨j, hj, z⟩ => by
  rcases p.sr.nm j q hj z with y | y
  · exact y (.inr rfl)
  · exact hqp y
theorem LcP.step (p : LcP C σ q H1 e acc τ H) (hqp : C.par ≠ some q) (x : Ext (OW (C.b fun a => C.M a ∨ a = q) τ) H H') (s : SR (C.b fun a => C.M a ∨ a = q) e' τ H') : LcP C σ q H1 e' acc τ H' := by
  obtain ⟨accV, h1, h2⟩ := p.lst
  refine ⟨⟨accV, x q _ h1 (.inl (p.nq hqp)), IsDs.step x.mo (fun _ z => .inl z) _ _ h2⟩, fun a u z n => x a u (p.ext a u z n) (n.imp (fun n z2 => by
    rw [p.ow] at z2
    exact n z2) id), s, p.ow⟩
theorem LcP.same (p : LcP C σ q H1 e acc τ H) (hqp : C.par ≠ some q) (k : Same H H') : LcP C σ q H1 e acc τ H' := p.step hqp (same_ext k) (p.sr.same k)
theorem LcP.re (p : LcP C σ q H1 e acc τ H) (s : SR (C.b fun a => C.M a ∨ a = q) e' τ' H) (ho : OW (C.b fun a => C.M a ∨ a = q) τ' = OW C σ) : LcP C σ q H1 e' acc τ' H := by
  obtain ⟨accV, h1, h2⟩ := p.lst
  exact ⟨⟨accV, h1, by rw [p.mo ho]; exact h2⟩, p.ext, s, ho⟩
theorem LcP.app (p : LcP C σ q H1 e acc τ H) (hqp : C.par ≠ some q) (h0q : C.H0 q = none) (hq : H1 q = none) {d : D} {y : V} (i : IsD C.k H (MO (C.b fun a => C.M a ∨ a = q) τ) d y) : ∃ accV, H q = some (.lst accV) ∧ accV.length = acc.length ∧ LcP C σ q H1 e (acc ++ [d]) τ (upd H q (.lst (accV ++ [y]))) := by
  obtain ⟨accV, h1, h2⟩ := p.lst
  have mq : MO (C.b fun a => C.M a ∨ a = q) τ q := .inl (.inr rfl)
  have wr : Ext (MO (C.b fun a => C.M a ∨ a = q) τ) H (upd H q (.lst (accV ++ [y]))) := extWr mq h1 fun z => z
  refine ⟨accV, h1, h2.length, ⟨accV ++ [y], upd_same, IsDs.step wr (fun _ z => .inl z) _ _ (h2.app (.cons i .nil))⟩, fun a u z n => ?_, p.sr.wrM (.inr rfl) h1 (fun z => z) h0q hqp, p.ow⟩
  rw [upd_ne (ne_of_none z hq)]
  exact p.ext a u z n
theorem ow_b {M' : Addr → Prop} : OW (C.b M') σ = OW C σ := rfl
variable {vs vs1 : List Nat} {f f1 : MD (List D)} {g g1 : GD} {t t1 : MD Bool} {el : MD D} {Q : VK}
theorem lc_go2 (hv : OkVs C vs) (hv1 : ∀ v ∈ vs1, v ∈ vs) (h : tF C (lcM2 vs vs1 f g t f1 g1 t1 el) σ H Q) :
    tLc2 (tI C f) (fun v σ H Q => ∃ M', tGv (C.b M') vs g v σ H Q) (fun σ H Q => ∃ M', tT (C.b M') t σ H Q) (fun σ H R => ∃ M', tI (C.b M') f1 σ H R) (fun v σ H Q => ∃ M', tGv (C.b M') vs1 g1 v σ H Q) (fun σ H Q => ∃ M', tT (C.b M') t1 σ H Q) (fun σ H Q => ∃ M', tE (C.b M') el σ H Q) vs vs1 σ H Q := by
  obtain ⟨e, s, o⟩ := h
  refine ⟨e, s, (Out.bind o).imp (fun p hp => ?_) fun _ _ z => z⟩
  obtain ⟨ds, e1⟩ := p
  intro J H1 x1 s1 it q hq
  dsimp only at hp s1 it
  have hvb : ∀ M', OkVs (C.b M') vs := fun _ => hv
  have hvb1 : ∀ M', OkVs (C.b M') vs1 := fun _ v hv' => hv v (hv1 v hv')
  have hp2 : Out (fun r => PF C σ H Q (r.1, keepL e1 r.2 vs)) (fun _ _ => False) (lcS2 vs vs1 g t f1 g1 t1 el ds 0 (wipeL e1 vs)) := (Out.any (Out.bind hp) (lcS2_nx _ _ _)).imp (fun r z => z) fun _ _ z => z
  clear hp
  have q0 : C.H0 q = none := by
    cases z : C.H0 q with
    | none => rfl
    | some u =>
      by_cases hpq : C.par = some q
      · obtain ⟨u2, h2⟩ := s1.pm q hpq
        rw [hq] at h2
        cases h2
      · have := s1.ext q u z (.inl hpq)
        rw [hq] at this
        cases this
  have qp : C.par ≠ some q := fun z => by
    obtain ⟨u2, h2⟩ := s1.pm q z
    rw [hq] at h2
    cases h2
  have oww : OW (C.b fun a => C.M a ∨ a = q) (L2.wipe σ vs) = OW C σ := OW_wipe (hvb _)
  have p0 : LcP C σ q H1 (wipeL e1 vs) [] (L2.wipe σ vs) (upd H1 q (.lst [])) := ⟨⟨[], upd_same, rfl⟩, fun a u z _ => by rw [upd_ne (ne_of_none z hq)]; exact z, (s1.into hq).wipe (hvb _), oww⟩
  let Nx : Nat → Hp → Prop := fun i H' => ∃ acc e', LcP C σ q H1 e' acc (L2.wipe σ vs) H' ∧ acc.length ≤ sizeLine ∧ Out (fun r => PF C σ H Q (acc ++ r.1, keepL e1 r.2 vs)) (fun _ _ => False) (lcS2 vs vs1 g t f1 g1 t1 el (ds.drop i) acc.length e')
  refine ⟨fun i m H' => m = ds.length - i ∧ i ≤ ds.length ∧ Nx i H', ⟨ds.length, rfl, Nat.zero_le _, [], wipeL e1 vs, p0, Nat.zero_le _, hp2⟩, ?_⟩
  rintro i m H2 ⟨rfl, hi, acc, e2, p2, hac, o2⟩
  have xx : Ext (OW C σ) H1 H2 := p2.ext
  by_cases hlt : i < ds.length
  · have hd : ds[i]? = some ds[i] := List.getElem?_eq_getElem hlt
    rw [List.drop_eq_getElem_cons hlt] at o2
    refine .inr ⟨it.go H2 i _ xx.mo hd, Nx (i + 1), fun H' h => ⟨_, by omega, rfl, hlt, h⟩, fun x H3 hy => ?_⟩
    obtain ⟨k3, i3⟩ := it.yld H2 (MO (C.b fun a => C.M a ∨ a = q) (L2.wipe σ vs)) i _ x H3 xx.mo (fun a z => by
      rcases z with (z | z) | z
      · exact .inl (.inl z)
      · exact .inr (by rw [z]; exact hq)
      · rw [oww] at z
        exact .inl (.inr z)) hd hy
    have p3 := p2.same qp k3
    refine ⟨_, e2, ds[i], p3.sr, i3, ?_⟩
    have o3 := noX_bind (E' := fun _ _ => False) (show Out _ _ ((noX (g ds[i] e2)).bind _) from o2)
    refine o3.imp (fun e3 o4 => ?_) fun _ _ z => z
    intro σ4 m4 w4 s4
    rw [wipe_sub vs fun _ z => z] at w4
    have ow4 : OW (C.b fun a => C.M a ∨ a = q) σ4 = OW C σ := m4.trans oww
    have p4 : LcP C σ q H1 e3 acc σ4 H3 := p3.re s4 ow4
    refine ⟨w4, _, e3, s4, ?_⟩
    refine (noX_bind o4).imp (fun pt o5 => ?_) fun _ _ z => z
    obtain ⟨b, e5⟩ := pt
    intro H5 x5 s5
    have p5 : LcP C σ q H1 e5 acc σ4 H5 := p4.step qp x5 s5
    cases b with
    | false =>
      refine iteF ⟨acc, wipeL e5 vs, p5.re (by rw [← w4]; exact s5.wipe (hvb _)) oww, hac, o5⟩
    | true =>
      refine iteT ⟨_, e5, s5, ?_⟩
      refine (noX_bind o5).imp (fun qd o6 => ?_) fun _ _ z => z
      obtain ⟨ds1, e6⟩ := qd
      intro J1 H6 x6 s6 it1
      have p6 : LcP C σ q H1 e6 acc σ4 H6 := p5.step qp x6 s6
      have o6' : Out (fun r => PF C σ H Q (acc ++ r.1, keepL e1 r.2 vs)) (fun _ _ => False) (if acc.length + ds1.length ≤ sizeLine then (lcS vs1 g1 t1 el ds1 (wipeL e6 vs1)).bind fun r => (lcS2 vs vs1 g t f1 g1 t1 el (ds.drop (i + 1)) (acc.length + r.1.length) (wipeL r.2 vs)).bind fun r2 => .ok (r.1 ++ r2.1, r2.2) else .bad) := o6
      by_cases hz : acc.length + ds1.length ≤ sizeLine
      · rw [if_pos hz] at o6'
        have ow6 : OW (C.b fun a => C.M a ∨ a = q) (L2.wipe σ4 vs1) = OW C σ := (OW_wipe (hvb1 _)).trans ow4
        have p7 : LcP C σ q H1 (wipeL e6 vs1) acc (L2.wipe σ4 vs1) H6 := p6.re (s6.wipe (hvb1 _)) ow6
        have w46 : L2.wipe (L2.wipe σ4 vs1) vs = L2.wipe σ vs := by
          rw [wipe_sub vs1 hv1, w4]
        refine ⟨fun j k H' => k = ds1.length - j ∧ j ≤ ds1.length ∧ ∃ ac1 e', LcP C σ q H1 e' (acc ++ ac1) (L2.wipe σ4 vs1) H' ∧ ac1.length ≤ j ∧
          Ext (MO (C.b fun a => C.M a ∨ a = q) σ4) H6 H' ∧ Out (fun (r : List D × Lc) => Out (fun (r : List D × Lc) => PF C σ H Q (acc ++ r.1, keepL e1 r.2 vs)) (fun _ _ => False) ((lcS2 vs vs1 g t f1 g1 t1 el (ds.drop (i + 1)) (acc.length + (ac1 ++ r.1).length) (wipeL r.2 vs)).bind fun (r2 : List D × Lc) => .ok ((ac1 ++ r.1) ++ r2.1, r2.2))) (fun _ _ => False) (lcS vs1 g1 t1 el (ds1.drop j) e'),
          ⟨ds1.length, rfl, Nat.zero_le _, [], wipeL e6 vs1, by rw [List.append_nil]; exact p7, Nat.zero_le _, Ext.refl _ _, (Out.any (Out.bind o6') (lcS_nx _ _)).imp (fun r z => z) fun _ _ z => z⟩, ?_⟩
        rintro j k H7 ⟨rfl, hj, ac1, e7, p8, hac1, x7, o7⟩
        by_cases hlt1 : j < ds1.length
        · have hd1 : ds1[j]? = some ds1[j] := List.getElem?_eq_getElem hlt1
          rw [List.drop_eq_getElem_cons hlt1] at o7
          refine .inr ⟨it1.go H7 j _ x7 hd1, fun H' => ∃ ac1 e', LcP C σ q H1 e' (acc ++ ac1) (L2.wipe σ4 vs1) H' ∧ ac1.length ≤ j + 1 ∧
            Ext (MO (C.b fun a => C.M a ∨ a = q) σ4) H6 H' ∧ Out (fun (r : List D × Lc) => Out (fun (r : List D × Lc) => PF C σ H Q (acc ++ r.1, keepL e1 r.2 vs)) (fun _ _ => False) ((lcS2 vs vs1 g t f1 g1 t1 el (ds.drop (i + 1)) (acc.length + (ac1 ++ r.1).length) (wipeL r.2 vs)).bind fun (r2 : List D × Lc) => .ok ((ac1 ++ r.1) ++ r2.1, r2.2))) (fun _ _ => False) (lcS vs1 g1 t1 el (ds1.drop (j + 1)) e'),
            fun H' h => ⟨_, by omega, rfl, hlt1, h⟩, fun x2 H8 hy2 => ?_⟩
          obtain ⟨k8, i8⟩ := it1.yld H7 (MO (C.b fun a => C.M a ∨ a = q) (L2.wipe σ4 vs1)) j _ x2 H8 x7 (fun a z => .inl (by rw [MO_wipe (hvb1 _)] at z; exact z)) hd1 hy2
          have p9 := p8.same qp k8
          refine ⟨_, e7, ds1[j], p9.sr, i8, ?_⟩
          have o8 := noX_bind (E' := fun _ _ => False) (show Out _ _ ((noX (g1 ds1[j] e7)).bind _) from o7)
          refine o8.imp (fun e9 o9 => ?_) fun _ _ z => z
          intro σ9 m9 w9 s9
          rw [wipe_sub vs1 fun _ z => z] at w9
          have ow9 : OW (C.b fun a => C.M a ∨ a = q) σ9 = OW C σ := m9.trans ow6
          have p10 : LcP C σ q H1 e9 (acc ++ ac1) σ9 H8 := p9.re s9 ow9
          refine ⟨w9, _, e9, s9, ?_⟩
          refine (noX_bind o9).imp (fun pt o10 => ?_) fun _ _ z => z
          obtain ⟨b, e10⟩ := pt
          intro H10 x10 s10
          have p11 : LcP C σ q H1 e10 (acc ++ ac1) σ9 H10 := p10.step qp x10 s10
          have ex : ∀ {Ha Hb : Hp}, Ext (OW (C.b fun a => C.M a ∨ a = q) σ9) Ha Hb → Ext (MO (C.b fun a => C.M a ∨ a = q) σ4) Ha Hb := fun {Ha Hb} z => Ext.mo (by
            rw [ow9] at z
            rw [ow4]
            exact z)
          have x10' := (x7.trans (same_ext k8)).trans (ex x10)
          cases b with
          | false => exact iteF ⟨ac1, wipeL e10 vs1, p11.re (by rw [← w9]; exact s10.wipe (hvb1 _)) ow6, Nat.le_succ_of_le hac1, x10', o10⟩
          | true =>
            refine iteT ⟨_, e10, s10, ?_⟩
            refine (noX_bind (E' := fun _ _ => False) o10).imp (fun pq o11 => ?_) fun _ _ z => z.elim
            obtain ⟨d11, e11⟩ := pq
            intro y H11 x11 s11 i11
            have p12 : LcP C σ q H1 e11 (acc ++ ac1) σ9 H11 := p11.step qp x11 s11
            obtain ⟨accV, h1, h2, p13⟩ := p12.app qp q0 hq i11
            refine ⟨accV, h1, by rw [h2, List.length_append]; omega, ac1 ++ [d11], wipeL e11 vs1, ?_, by rw [List.length_append]; exact Nat.succ_le_succ hac1, ?_, ?_⟩
            · rw [← List.append_assoc]
              exact p13.re (by rw [← w9]; exact p13.sr.wipe (hvb1 _)) ow6
            · exact (x10'.trans (ex x11)).trans (extWr (.inl (.inr rfl)) h1 fun z => z)
            · refine (Out.bind o11).imp (fun r hr => ?_) fun _ _ z => z
              rw [List.append_assoc]
              exact hr
        · have ej : j = ds1.length := by omega
          subst ej
          rw [List.drop_length] at o7
          have o8 : Out (fun r => PF C σ H Q (acc ++ r.1, keepL e1 r.2 vs)) (fun _ _ => False) ((lcS2 vs vs1 g t f1 g1 t1 el (ds.drop (i + 1)) (acc.length + (ac1 ++ []).length) (wipeL e7 vs)).bind fun r2 => .ok ((ac1 ++ []) ++ r2.1, r2.2)) := o7
          rw [List.append_nil] at o8
          refine .inl ⟨it1.stop H7 x7, acc ++ ac1, wipeL e7 vs, p8.re (by rw [← w46]; exact p8.sr.wipe (hvb _)) oww, by rw [List.length_append]; omega, ?_⟩
          rw [List.length_append]
          refine (Out.bind o8).imp (fun r hr => ?_) fun _ _ z => z
          rw [List.append_assoc]
          exact hr
      · rw [if_neg hz] at o6'
        exact o6'.elim
  · have ei : i = ds.length := by omega
    subst ei
    rw [List.drop_length] at o2
    have hfin : PF C σ H Q (acc ++ [], keepL e1 e2 vs) := o2
    rw [List.append_nil] at hfin
    obtain ⟨accV, h1, h2⟩ := p2.lst
    obtain ⟨s9, x9⟩ := SR.out hv s1 hq p2.sr h1 p2.ext
    have mq : MO (C.b fun a => C.M a ∨ a = q) (L2.wipe σ vs) q := .inl (.inr rfl)
    have mq2 : ∀ a, MO C σ a → MO (C.b fun a => C.M a ∨ a = q) (L2.wipe σ vs) a := fun a z => by
      rcases z with z | z
      · exact .inl (.inl z)
      · exact .inr (by rw [oww]; exact z)
    have fin := hfin accV (Dn.era H2 q) q (x1.trans x9) s9 (IsDs.era h1 (fun z => z) mq mq2 _ _ h2) era_same
    rw [era_upd h1] at fin
    exact .inl ⟨it.stop H2 xx.mo, fin⟩
end
section
variable {X : Cx} {C : Ct} {elt tg iter tg1 iter1 : Expr} {ifs ifs1 : List Expr} {scope : Scope} {own : List (Str × Nat)} {vs1 : List Nat} {pos spos py : Pos} {y : Str} {i : Nat} {f f1 : MD (List D)} {g g1 : GD} {t t1 : MD Bool} {el : MD D}
theorem PI.exM {a b : Expr} {α : Type} {t : α → TI} (h : ∀ m, PI X a b (t m)) : PI X a b (fun σ H R => ∃ m, t m σ H R) := ⟨fun pins s σ H R I ⟨m, hw⟩ => (h m).run pins s σ H R I hw⟩
theorem jf_lc2 (hc : X.calm = true) (hN : X.N.Nodup) (hv : OkVs C (own.map (·.2))) (hv1 : ∀ v ∈ vs1, v ∈ own.map (·.2)) (hi : PI X tg iter (tI C f)) (ok : BlkOk X.N X.env.scope scope own)
    (hg : ∀ (M' : Addr → Prop) (s : Shared) (H : Hp) (Ca : Addr) (cl : List (Str × Addr)) (fp : List Addr), PG (X.blk s H scope (compEnvC scope cl Ca X.env) fp) tg (tGv (C.b M') (own.map (·.2)) g))
    (ht : ∀ (M' : Addr → Prop) (s : Shared) (H : Hp) (Ca : Addr) (cl : List (Str × Addr)) (fp : List Addr), PTs (X.blk s H scope (compEnvC scope cl Ca X.env) fp) ifs (tT (C.b M') t))
    (hi1 : ∀ (M' : Addr → Prop) (s : Shared) (H : Hp) (Ca : Addr) (cl : List (Str × Addr)) (fp : List Addr), PI (X.blk s H scope (compEnvC scope cl Ca X.env) fp) tg1 iter1 (tI (C.b M') f1))
    (hg1 : ∀ (M' : Addr → Prop) (s : Shared) (H : Hp) (Ca : Addr) (cl : List (Str × Addr)) (fp : List Addr), PG (X.blk s H scope (compEnvC scope cl Ca X.env) fp) tg1 (tGv (C.b M') vs1 g1))
    (ht1 : ∀ (M' : Addr → Prop) (s : Shared) (H : Hp) (Ca : Addr) (cl : List (Str × Addr)) (fp : List Addr), PTs (X.blk s H scope (compEnvC scope cl Ca X.env) fp) ifs1 (tT (C.b M') t1))
    (he : ∀ (M' : Addr → Prop) (s : Shared) (H : Hp) (Ca : Addr) (cl : List (Str × Addr)) (fp : List Addr), PE (X.blk s H scope (compEnvC scope cl Ca X.env) fp) elt (tE (C.b M') el))
    (hs : ∀ x, foldedSetIterable iter X.env x = pure x := by intro _; rfl) (hs1 : ∀ env x, foldedSetIterable iter1 env x = pure x := by intro _ _; rfl) :
    PE X (.ListComp elt [⟨tg, iter, ifs, 0⟩, ⟨tg1, iter1, ifs1, 0⟩] scope pos) (tF C (lcM2 (own.map (·.2)) vs1 f g t f1 g1 t1 el)) :=
  PE.imp (pe_lc2 hc hN hi ok hv1 (fun s H Ca cl fp => PG.exM fun M' => hg M' s H Ca cl fp) (fun s H Ca cl fp => PTs.exM fun M' => ht M' s H Ca cl fp) (fun s H Ca cl fp => PI.exM fun M' => hi1 M' s H Ca cl fp) (fun s H Ca cl fp => PG.exM fun M' => hg1 M' s H Ca cl fp) (fun s H Ca cl fp => PTs.exM fun M' => ht1 M' s H Ca cl fp)
    (fun s H Ca cl fp => PE.exM fun M' => he M' s H Ca cl fp) hs hs1) fun σ H Q h => lc_go2 hv hv1 h
theorem js_setLc2 (hw : (i ∉ C.own ∧ Free C i) ∨ (i ∈ C.own ∧ Free C i)) (hc : X.calm = true) (hN : X.N.Nodup) (hy : X.N[i]? = some y) (hyl : X.env.scope.names.lookup y = some .local)
    (hsw : swapsWith (.ListComp elt [⟨tg, iter, ifs, 0⟩, ⟨tg1, iter1, ifs1, 0⟩] scope pos) (some (.Name y py)) spos.line X.env = pure true) (hv : OkVs C (own.map (·.2))) (hv1 : ∀ v ∈ vs1, v ∈ own.map (·.2)) (hi : PI X tg iter (tI C f)) (ok : BlkOk X.N X.env.scope scope own)
    (hg : ∀ (M' : Addr → Prop) (s : Shared) (H : Hp) (Ca : Addr) (cl : List (Str × Addr)) (fp : List Addr), PG (X.blk s H scope (compEnvC scope cl Ca X.env) fp) tg (tGv (C.b M') (own.map (·.2)) g))
    (ht : ∀ (M' : Addr → Prop) (s : Shared) (H : Hp) (Ca : Addr) (cl : List (Str × Addr)) (fp : List Addr), PTs (X.blk s H scope (compEnvC scope cl Ca X.env) fp) ifs (tT (C.b M') t))
    (hi1 : ∀ (M' : Addr → Prop) (s : Shared) (H : Hp) (Ca : Addr) (cl : List (Str × Addr)) (fp : List Addr), PI (X.blk s H scope (compEnvC scope cl Ca X.env) fp) tg1 iter1 (tI (C.b M') f1))
    (hg1 : ∀ (M' : Addr → Prop) (s : Shared) (H : Hp) (Ca : Addr) (cl : List (Str × Addr)) (fp : List Addr), PG (X.blk s H scope (compEnvC scope cl Ca X.env) fp) tg1 (tGv (C.b M') vs1 g1))
    (ht1 : ∀ (M' : Addr → Prop) (s : Shared) (H : Hp) (Ca : Addr) (cl : List (Str × Addr)) (fp : List Addr), PTs (X.blk s H scope (compEnvC scope cl Ca X.env) fp) ifs1 (tT (C.b M') t1))
    (he : ∀ (M' : Addr → Prop) (s : Shared) (H : Hp) (Ca : Addr) (cl : List (Str × Addr)) (fp : List Addr), PE (X.blk s H scope (compEnvC scope cl Ca X.env) fp) elt (tE (C.b M') el))
    (hs : ∀ x, foldedSetIterable iter X.env x = pure x := by intro _; rfl) (hs1 : ∀ env x, foldedSetIterable iter1 env x = pure x := by intro _ _; rfl) :
    PS X (.Assign [.Name y py] (.ListComp elt [⟨tg, iter, ifs, 0⟩, ⟨tg1, iter1, ifs1, 0⟩] scope pos) spos) (tS C (setO i (lcM2 (own.map (·.2)) vs1 f g t f1 g1 t1 el))) := by
  have h := ps_setLc2 hc hN hy hyl hsw hi ok hv1 (fun s H Ca cl fp => PG.exM fun M' => hg M' s H Ca cl fp) (fun s H Ca cl fp => PTs.exM fun M' => ht M' s H Ca cl fp) (fun s H Ca cl fp => PI.exM fun M' => hi1 M' s H Ca cl fp) (fun s H Ca cl fp => PG.exM fun M' => hg1 M' s H Ca cl fp) (fun s H Ca cl fp => PTs.exM fun M' => ht1 M' s H Ca cl fp)
    (fun s H Ca cl fp => PE.exM fun M' => he M' s H Ca cl fp) hs hs1
  rcases hw with ⟨ho, hf⟩ | ⟨ho, hf⟩
  · exact PS.imp h (set_of ho hf fun σ H Q h => lc_go2 hv hv1 h)
  · exact PS.imp h (setO_of ho hf fun σ H Q h => lc_go2 hv hv1 h)
end
end Dn

namespace Dn
open PySem PySem.Spec PyProof.Rows L2
/-! ### defs by their promises -/
/-- the def at f keeps sp; where it is called with as many values as sp lacks, dv fill up -/
structure HeldD (P : Program) (w : World) (K : PySem.W.Frag) (mg : Str → Option Value) (base : Heap) (lv : Nat) (f : Addr) (sp : Sp) (dv : List V) : Prop where
  ex : ∃ (fd : FuncData) (ps : List Str) (dvs : List Value), FnG P w K mg base CX0 lv f fd ps sp ∧ PySem.W.keepIn K (.ref f) = true ∧ L2.Binds K fd ps dvs ∧ Vals dv dvs
structure HeldK (P : Program) (w : World) (K : PySem.W.Frag) (mg : Str → Option Value) (base : Heap) (lv : Nat) (f : Addr) (sp : Sp) (n : Nat) (ks : List Str) (gV : List V → List V → List V) : Prop where
  ex : ∃ (fd : FuncData) (ps : List Str) (g : List Value → List Value → List Value), FnG P w K mg base CX0 lv f fd ps sp ∧ PySem.W.keepIn K (.ref f) = true ∧ KBn K fd ps n ks g gV
section
variable {X : Cx} {C : Ct} {lv lv' n m : Nat} {nw : Bool} {f : Addr} {ks : List Str} {x y : Str} {p pos px : Pos} {a : Expr} {es : List Expr} {kws : List Keyword} {F : List D → R D} {G : D → List D → R (D × D)} {dv : List V} {dd : List D} {fa fk ff : MD (List D)} {i : Nat}
theorem jc_call (A : HeldD X.prog X.w X.K X.mg X.base lv f (spP C.k n nw F) dv) (hr : RoomG lv' X.A) (hle : lv ≤ lv') (hg : Gl X x) (hm : X.mg x = some (.ref f)) (hc : Cst C.k dd dv) (hl : (a :: es).length + dd.length = n) (hlen : ∀ e r, fa e = .ok r → r.1.length = (a :: es).length) (ha : PA X (a :: es) (tA C fa)) (hdb : (x == ("__debug__" : Str)) = false := by decide)
    (he : starEach (a :: es) X.env = (false, eval a X.env) :: starEach es X.env := by rfl) (hpl : (backTo pos (starEach es X.env)).any (·.1) = false := by rfl) : PE X (.Call (.Name x p) (a :: es) [] pos) (tE C (calM F dd fa)) := by
  obtain ⟨fd, ps, dvs, h1, h2, h3, h4⟩ := A.ex
  exact je_call (h1.at (hr.mono hle)) hg hm h2 h3 h4 hc px0 hl hlen ha hdb he hpl
theorem jc_callF (A : HeldD X.prog X.w X.K X.mg X.base lv f (spP C.k n true F) dv) (hr : RoomG lv' X.A) (hle : lv ≤ lv') (hg : Gl X x) (hm : X.mg x = some (.ref f)) (hc : Cst C.k dd dv) (hl : (a :: es).length + dd.length = n) (hlen : ∀ e r, fa e = .ok r → r.1.length = (a :: es).length) (ha : PA X (a :: es) (tA C fa)) (hdb : (x == ("__debug__" : Str)) = false := by decide)
    (he : starEach (a :: es) X.env = (false, eval a X.env) :: starEach es X.env := by rfl) (hpl : (backTo pos (starEach es X.env)).any (·.1) = false := by rfl) : PE X (.Call (.Name x p) (a :: es) [] pos) (tF C (calF F dd fa)) := by
  obtain ⟨fd, ps, dvs, h1, h2, h3, h4⟩ := A.ex
  exact je_callF (h1.at (hr.mono hle)) hg hm h2 h3 h4 hc px0 hl hlen ha hdb he hpl
theorem jc_call0 (A : HeldD X.prog X.w X.K X.mg X.base lv f (spP C.k n nw F) dv) (hr : RoomG lv' X.A) (hle : lv ≤ lv') (hg : Gl X x) (hm : X.mg x = some (.ref f)) (hc : Cst C.k dd dv) (hl : dd.length = n) (hdb : (x == ("__debug__" : Str)) = false := by decide) : PE X (.Call (.Name x p) [] [] pos) (tE C (calM F dd nilA)) := by
  obtain ⟨fd, ps, dvs, h1, h2, h3, h4⟩ := A.ex
  exact je_call0 (E := fun cls d H => ∃ σ, C.W cls d σ H) (h1.at (hr.mono hle)) hg hm h2 h3 h4 hc (fun _ _ _ _ _ _ _ z => z.elim) (fun _ _ σ _ z => ⟨σ, z⟩) hl hdb
theorem jc_callI {dv : List V} (hd0 : dv = []) (A : HeldD X.prog X.w X.K X.mg X.base lv f (spI C.k n nw G) dv) (hr : RoomG lv' X.A) (hle : lv ≤ lv') (hg : Gl X x) (hm : X.mg x = some (.ref f))
    (hl : es.length + 1 = n) (hlen : ∀ e r, fa e = .ok r → r.1.length = es.length) (ho : i ∈ C.own) (hN : X.N[i]? = some y) (hv : Vis X.env.scope y) (ha : PA X es (tA C fa)) (hdb : (x == ("__debug__" : Str)) = false := by decide)
    (hd : (y == ("__debug__" : Str)) = false := by decide) (hcd : (y == ("__classdict__" : Str)) = false := by decide)
    (he : starEach (.Name y px :: es) X.env = (false, eval (.Name y px) X.env) :: starEach es X.env := by rfl) (hpl : (backTo pos (starEach es X.env)).any (·.1) = false := by rfl) : PE X (.Call (.Name x p) (.Name y px :: es) [] pos) (tE C (calI G i fa)) := by
  subst hd0
  obtain ⟨fd, ps, dvs, h1, h2, h3, h4⟩ := A.ex
  cases h4
  exact je_callI (h1.at (hr.mono hle)) hg hm h2 h3 hl hlen ho hN hv ha hdb hd hcd he hpl
theorem jc_callIF {dv : List V} (hd0 : dv = []) (A : HeldD X.prog X.w X.K X.mg X.base lv f (spI C.k n true G) dv) (hr : RoomG lv' X.A) (hle : lv ≤ lv') (hg : Gl X x) (hm : X.mg x = some (.ref f))
    (hl : es.length + 1 = n) (hlen : ∀ e r, fa e = .ok r → r.1.length = es.length) (ho : i ∈ C.own) (hN : X.N[i]? = some y) (hv : Vis X.env.scope y) (ha : PA X es (tA C fa)) (hdb : (x == ("__debug__" : Str)) = false := by decide)
    (hd : (y == ("__debug__" : Str)) = false := by decide) (hcd : (y == ("__classdict__" : Str)) = false := by decide)
    (he : starEach (.Name y px :: es) X.env = (false, eval (.Name y px) X.env) :: starEach es X.env := by rfl) (hpl : (backTo pos (starEach es X.env)).any (·.1) = false := by rfl) : PE X (.Call (.Name x p) (.Name y px :: es) [] pos) (tF C (caIF G i fa)) := by
  subst hd0
  obtain ⟨fd, ps, dvs, h1, h2, h3, h4⟩ := A.ex
  cases h4
  exact je_callIF (h1.at (hr.mono hle)) hg hm h2 h3 hl hlen ho hN hv ha hdb hd hcd he hpl
theorem jc_callN1 {dv : List V} (hd0 : dv = []) (A : HeldD X.prog X.w X.K X.mg X.base lv f (spI C.k n nw G) dv) (hr : RoomG lv' X.A) (hle : lv ≤ lv') (hg : Gl X x) (hm : X.mg x = some (.ref f))
    (hl : es.length + 1 = n) (hlen : ∀ e r, fa e = .ok r → r.1.length = es.length) (h1 : PE X a (tF C ff)) (ha : ∀ M', PA X es (tA (C.b M') fa)) (hdb : (x == ("__debug__" : Str)) = false := by decide)
    (he : starEach (a :: es) X.env = (false, eval a X.env) :: starEach es X.env := by rfl) (hpl : (backTo pos (starEach es X.env)).any (·.1) = false := by rfl) : PE X (.Call (.Name x p) (a :: es) [] pos) (tE C (caN G ff fa)) := by
  subst hd0
  obtain ⟨fd, ps, dvs, g1, g2, g3, g4⟩ := A.ex
  cases g4
  exact je_callN1 (g1.at (hr.mono hle)) hg hm g2 g3 hl hlen h1 ha hdb he hpl
variable {g : List D → List D → List D} {gV : List V → List V → List V}
theorem jc_callN (A : HeldK X.prog X.w X.K X.mg X.base lv f (spP C.k n nw F) m ks gV) (hr : RoomG lv' X.A) (hle : lv ≤ lv') (hgl : Gl X x) (hm : X.mg x = some (.ref f))
    (hg : ∀ (k : Kx) H M ds vs es zs, IsDs k H M ds vs → IsDs k H M es zs → IsDs k H M (g ds es) (gV vs zs)) (hl : ∀ ds es, ds.length = m → es.length = ks.length → (g ds es).length = n) (hlen : ∀ e r, fa e = .ok r → r.1.length = m) (hlenk : ∀ e r, fk e = .ok r → r.1.length = ks.length)
    (ha : PA X (a :: es) (tA C fa)) (hkw : PK X kws (tA C fk)) (hall : (backToKw pos (keywordEach kws X.env)).all (·.1.isSome) = true := by rfl) (hks : (backToKw pos (keywordEach kws X.env)).filterMap (·.1) = ks := by rfl) (hdb : (x == ("__debug__" : Str)) = false := by decide)
    (he : starEach (a :: es) X.env = (false, eval a X.env) :: starEach es X.env := by rfl)
    (hpl : ((backTo pos (starEach (a :: es) X.env)).any (·.1) || (backToKw pos (keywordEach kws X.env)).any (·.1.isNone)) = false := by rfl) : PE X (.Call (.Name x p) (a :: es) kws pos) (tE C (calK F g fa fk)) := by
  obtain ⟨fd, ps, gu, h1, h2, h3⟩ := A.ex
  exact je_callN (E := fun cls d H => ∃ σ, C.W cls d σ H) (h1.at (hr.mono hle)) hgl hm h2 h3 (fun _ _ _ _ _ _ _ z => z.elim) (fun _ _ σ _ z => ⟨σ, z⟩) hg hl hlen hlenk ha hkw hall hks hdb he hpl
theorem jc_callK0 (A : HeldK X.prog X.w X.K X.mg X.base lv f (spP C.k n nw F) 0 ks gV) (hr : RoomG lv' X.A) (hle : lv ≤ lv') (hgl : Gl X x) (hm : X.mg x = some (.ref f))
    (hg : ∀ (k : Kx) H M ds vs es zs, IsDs k H M ds vs → IsDs k H M es zs → IsDs k H M (g ds es) (gV vs zs)) (hl : ∀ ds es, ds.length = 0 → es.length = ks.length → (g ds es).length = n) (hlenk : ∀ e r, fk e = .ok r → r.1.length = ks.length)
    (hkw : PK X kws (tA C fk)) (hall : (backToKw pos (keywordEach kws X.env)).all (·.1.isSome) = true := by rfl) (hks : (backToKw pos (keywordEach kws X.env)).filterMap (·.1) = ks := by rfl) (hdb : (x == ("__debug__" : Str)) = false := by decide)
    (hpl : ((backTo pos (starEach [] X.env)).any (·.1) || (backToKw pos (keywordEach kws X.env)).any (·.1.isNone)) = false := by rfl) : PE X (.Call (.Name x p) [] kws pos) (tE C (calK F g nilA fk)) := by
  obtain ⟨fd, ps, gu, h1, h2, h3⟩ := A.ex
  exact je_callK0 (h1.at (hr.mono hle)) hgl hm h2 h3 px0 hg hl hlenk hkw hall hks hdb hpl
end
section
variable {K : PySem.W.Frag} {x qual : Str} {params : Arguments} {body : List Stmt} {scope : Scope} {dvs : List V} {kws : List (Str × V)} {f : Addr} {fd : FuncData} {ps : List Str}
theorem kbindsNo (F : FunD K x qual params body scope [] kws f fd) (n : Nat) (ks : List Str) (g : {α : Type} → List α → List α → List α)
    (hrel : ∀ {vs zs : List V} {us ws : List Value}, Vals vs us → Vals zs ws → Vals (g vs zs) (g us ws))
    (h : ∀ (kV doc pm : Value) (an : Option Addr) (cdv ct : Value) (us ws : List Value), us.length = n → ws.length = ks.length → bindArgs (PySem.W.fnOf x qual params body scope .none kV doc pm an cdv ct) ⟨us, ks.zip ws⟩ = pure (ps.zip (g us ws))) : KBn K fd ps n ks (fun us ws => g us ws) (fun vs zs => g vs zs) := by
  obtain ⟨oc, od, dV, kV, doc, pm, an, cdv, ct, osl, rfl, lk, hcd, hD, hK⟩ := F.ex
  rcases hD with ⟨_, rfl⟩ | ⟨e, _⟩
  · exact ⟨fun s us ws _ l1 l2 => .of_eq (h kV doc pm an cdv ct us ws l1 l2), fun r1 r2 => hrel r1 r2⟩
  · exact absurd rfl e
theorem Vals.rev {vs : List V} {us : List Value} (h : Vals vs us) : Vals vs.reverse us.reverse := h.reverse
theorem free_P {C : Ct} {i : Nat} (h : C.par = none) : Free C i := .inl h
theorem free_I {C : Ct} {i : Nat} (h0 : 0 ∈ C.own) (h : i ≠ 0) : Free C i := .inr ⟨h0, h⟩
theorem okv_P {C : Ct} {vs : List Nat} (h : C.par = none) (h2 : ∀ v ∈ vs, v ∉ C.own) : OkVs C vs := fun v hv => ⟨h2 v hv, .inl h⟩
theorem okv_I {C : Ct} {vs : List Nat} (h : 0 ∈ C.own) (h2 : ∀ v ∈ vs, v ∉ C.own ∧ v ≠ 0) : OkVs C vs := fun v hv => ⟨(h2 v hv).1, .inr ⟨h, (h2 v hv).2⟩⟩
/-- the data of the module: the script's def and the table's defs by number -/
def kx (K : PySem.W.Frag) (fn : Nat → Option Addr) : Kx := ⟨K, fn, fun _ _ => False⟩
/-- a def of plain data keeps its promise -/
theorem fn_P {P : Program} {w : World} {mg : Str → Option Value} {base : Heap} {lv n NN : Nat} {nw : Bool} {own : List Nat} {fb : MS} {k : Kx} {N : List Str} (F : FunD K x qual params body scope dvs kws f fd) (S : FnScope N ps scope) (hps : ps.length = n) (hNN : N.length = NN) (ho : ∀ i ∈ own, n ≤ i)
    (h : ∀ (cdv : Value) (A : Around) (outer : List Env) (s : Shared) (H : Hp) (E : XK) (M : Addr → Prop) (H0 : Hp) (W : WX), RoomG lv (A.deeper (envOfC qual scope s.heap.objs.size f cdv)) → PSs (cxOf CX0 P w K mg base N qual scope f cdv A outer s H E).nox body (tS ⟨k, own, none, M, H0, W, nw⟩ fb)) : FnG P w K mg base CX0 (lv + 1) f fd ps (spP k n nw (runB NN nw fb)) := by
  refine fnG_of F S (fun vs H Q E h => ?_) fun cdv A outer s H vs Q E hr hsp => ?_
  · obtain ⟨M, ds, h1, _⟩ := h
    rw [h1, hps]
  · obtain ⟨M, ds, h1, h2, h3, h4⟩ := hsp
    exact ⟨_, PSs.nox (h cdv A outer s H E M H (fun cls d _ H' => E cls d H') hr), body_P hNN (by rw [h2.length]) (fun i hi => by rw [← h2.length, h1]; exact ho i hi) h2 h3 h4⟩
/-- one that changes its first argument -/
theorem fn_I {P : Program} {w : World} {mg : Str → Option Value} {base : Heap} {lv n NN : Nat} {nw : Bool} {own : List Nat} {fb : MS} {k : Kx} {N : List Str} (F : FunD K x qual params body scope dvs kws f fd) (S : FnScope N ps scope) (hps : ps.length = n) (hNN : N.length = NN) (h1N : 1 ≤ NN) (h0 : 0 ∈ own) (ho : ∀ i ∈ own, i = 0 ∨ n ≤ i)
    (h : ∀ (cdv : Value) (A : Around) (outer : List Env) (s : Shared) (H : Hp) (E : XK) (M : Addr → Prop) (H0 : Hp) (a : Addr), RoomG lv (A.deeper (envOfC qual scope s.heap.objs.size f cdv)) → PSs (cxOf CX0 P w K mg base N qual scope f cdv A outer s H E).nox body (tS ⟨k, own, some a, M, H0, fun _ _ _ _ => False, nw⟩ fb)) : FnG P w K mg base CX0 (lv + 1) f fd ps (spI k n nw (runI NN nw fb)) := by
  refine fnG_of F S (fun vs H Q E h => ?_) fun cdv A outer s H vs Q E hr hsp => ?_
  · obtain ⟨M, a, d0, ds, vr, _, h1, _⟩ := h
    rw [h1, hps]
  · obtain ⟨M, a, d0, ds, vr, rfl, h1, hM, od, h2, h3, h4⟩ := hsp
    refine ⟨_, PSs.nox (h cdv A outer s H E M H a hr), body_I (E := E) hNN h1N (by rw [h2.length]) (fun i hi => ?_) h0 hM od h2 h3 h4⟩
    rw [← h2.length]
    rw [List.length_cons] at h1
    rw [h1]
    exact ho i hi
theorem held_K {P : Program} {w : World} {mg : Str → Option Value} {base : Heap} {lv n : Nat} {sp : Sp} {ks : List Str} {g : List Value → List Value → List Value} {gV : List V → List V → List V} (F : FunD K x qual params body scope dvs kws f fd) (A : FnG P w K mg base CX0 lv f fd ps sp) (B : KBn K fd ps n ks g gV) : HeldK P w K mg base lv f sp n ks gV := ⟨fd, ps, g, A, F.kp, B⟩
theorem held_D {P : Program} {w : World} {mg : Str → Option Value} {base : Heap} {lv : Nat} {sp : Sp} {dv : List V} (F : FunD K x qual params body scope dvs kws f fd) (A : FnG P w K mg base CX0 lv f fd ps sp) (B : ∃ ds, Vals dv ds ∧ L2.Binds K fd ps ds) : HeldD P w K mg base lv f sp dv := by
  obtain ⟨ds, h1, h2⟩ := B
  exact ⟨fd, ps, ds, A, F.kp, h2, h1⟩
theorem held_N {P : Program} {w : World} {mg : Str → Option Value} {base : Heap} {lv : Nat} {sp : Sp} (F : FunD K x qual params body scope dvs kws f fd) (A : FnG P w K mg base CX0 lv f fd ps sp) (B : L2.Binds K fd ps []) : HeldD P w K mg base lv f sp [] := ⟨fd, ps, [], A, F.kp, B, .nil⟩
end
end Dn

namespace Dn
open PySem PySem.Spec PyProof.Rows L2
theorem nmG_nx (i : Nat) (d : D) (e : Lc) (y : Ex) (l : Lc) : nmG i d e ≠ .exc y l := by simp [nmG]
theorem nilG_nx (ds : List D) (e : Lc) (y : Ex) (l : Lc) : nilG ds e ≠ .exc y l := by
  cases ds <;> simp [nilG]
theorem consG_nx {g : GD} {h : List D → Lc → R Lc} (h1 : ∀ d e y l, g d e ≠ .exc y l) (h2 : ∀ ds e y l, h ds e ≠ .exc y l) (ds : List D) (e : Lc) (y : Ex) (l : Lc) : consG g h ds e ≠ .exc y l := by
  cases ds with
  | nil => simp [consG]
  | cons d r =>
    unfold consG
    dsimp only
    cases e0 : g d e with
    | ok e1 => exact h2 _ _ _ _
    | exc z k => exact absurd e0 (h1 _ _ _ _)
    | bad => simp
theorem tupG_nx {n : Nat} {h : List D → Lc → R Lc} (h2 : ∀ ds e y l, h ds e ≠ .exc y l) (d : D) (e : Lc) (y : Ex) (l : Lc) : tupG n h d e ≠ .exc y l := by
  unfold tupG
  split
  · split
    · exact h2 _ _ _ _
    · simp
  · split
    · exact h2 _ _ _ _
    · simp
  · simp
theorem subG_nx {i : Nat} {f : MD D} (hf : ∀ e y l, f e ≠ .exc y l) (d : D) (e : Lc) (y : Ex) (l : Lc) : isLG i (subG i f) d e ≠ .exc y l := by
  unfold isLG
  split
  · unfold subG
    cases e0 : f e with
    | ok p =>
      rw [R.bind_ok]
      repeat (first | (split) | simp)
    | exc z k => exact absurd e0 (hf _ _ _)
    | bad => simp
  · simp
theorem cst_nx (d : D) (e : Lc) (y : Ex) (l : Lc) : cst d e ≠ .exc y l := by simp [cst]
theorem vr_nx (i : Nat) (e : Lc) (y : Ex) (l : Lc) : vr i e ≠ .exc y l := by
  unfold vr
  split <;> simp
theorem Room65 {k : Nat} {A : Around} (r : RoomG k A) : A.units + 65 < cLine := by
  have := r.room.un
  omega
section
variable {X : Cx} {C : Ct}
theorem je_gi {x : Str} {i : Int} {pos : Pos} (hm : ∃ t, X.mg x = some (.int i t)) (hg : Gl X x) (hd : (x == ("__debug__" : Str)) = false := by decide) : PE X (.Name x pos) (tE C (cst (.int i))) := by
  obtain ⟨t, h⟩ := hm
  exact je_gint hg h ⟨t, rfl⟩ hd
end
theorem gI {K : PySem.W.Frag} {h : Heap} {mg : Str → Option Value} {x : Str} {i : Int} (X : K.In h) (G : h.Ns mainGlobals mg) (c : (He.Fa.int x i).ok K = true) : ∃ t, mg x = some (.int i t) := He.int_ok X G c
theorem isiInt : IsiOk "int" isInt := isi_mk (fun b h => by cases h; decide +kernel) (fun c b h => by cases h; decide +kernel) (fun c b h => by cases h; decide +kernel) (fun c b h => by cases h; decide +kernel) (fun c b h => by cases h; decide +kernel) (fun c b h => by cases h; decide +kernel) (fun c b h => by cases h; decide +kernel) (fun c c' b h => by cases h; decide +kernel) (fun c => rfl)
theorem isiBool : IsiOk "bool" isBool := isi_mk (fun b h => by cases h; decide +kernel) (fun c b h => by cases h; decide +kernel) (fun c b h => by cases h; decide +kernel) (fun c b h => by cases h; decide +kernel) (fun c b h => by cases h; decide +kernel) (fun c b h => by cases h; decide +kernel) (fun c b h => by cases h; decide +kernel) (fun c c' b h => by cases h; decide +kernel) (fun c => rfl)
theorem isiTup : IsiOk "tuple" isTup := isi_mk (fun b h => by cases h; decide +kernel) (fun c b h => by cases h; decide +kernel) (fun c b h => by cases h; decide +kernel) (fun c b h => by cases h; decide +kernel) (fun c b h => by cases h; decide +kernel) (fun c b h => by cases h; decide +kernel) (fun c b h => by cases h; decide +kernel) (fun c c' b h => by cases h; decide +kernel) (fun c => rfl)
theorem isiStr : IsiOk "str" isStr := isi_mk (fun b h => by cases h; decide +kernel) (fun c b h => by cases h; decide +kernel) (fun c b h => by cases h; decide +kernel) (fun c b h => by cases h; decide +kernel) (fun c b h => by cases h; decide +kernel) (fun c b h => by cases h; decide +kernel) (fun c b h => by cases h; decide +kernel) (fun c c' b h => by cases h; decide +kernel) (fun c => rfl)
theorem isiLst : IsiOk "list" isLst := isi_mk (fun b h => by cases h; decide +kernel) (fun c b h => by cases h; decide +kernel) (fun c b h => by cases h; decide +kernel) (fun c b h => by cases h; decide +kernel) (fun c b h => by cases h; decide +kernel) (fun c b h => by cases h; decide +kernel) (fun c b h => by cases h; decide +kernel) (fun c c' b h => by cases h; decide +kernel) (fun c => rfl)
def negD : D → R D
  | .int i => .ok (.int (-i))
  | _ => .bad
theorem negD_nx (a : D) (y : Ex) (l : Lc) : negD a ≠ .exc y l := by
  unfold negD
  split <;> simp
theorem je_neg {X : Cx} {C : Ct} {a : Expr} {f : MD D} {pos : Pos} (ha : PE X a (tE C f)) : PE X (.UnaryOp .USub a pos) (tE C (un1 negD f)) := by
  refine PE.imp (pe_un un_neg ha) (tE_un (r := rU fun i => .int (-i)) (fun σ e H x d1 Q s i1 q => ?_) negD_nx)
  unfold negD at q
  split at q
  · cases i1
    exact ⟨_, rfl, q.val rfl⟩
  · exact q.elim
section
variable {X : Cx} {C : Ct} {a : Expr} {f : MD D} {x : Str} {px pos : Pos} {d : Addr} {tbl : List (Str × Option D)}
theorem tE_inK {neg : Bool} (hK : C.k.K = X.K) (T : KTab C.k X.w d tbl) (σ : L2.St) (H : Hp) (Q : VK) (h : tE C (un1 (inKt neg tbl) f) σ H Q) :
    tOp (fun x y H Q => ∃ (z : Str) (r : Option Value), x = .str z ∧ y = .ref d ∧ PySem.W.nsIn X.K d z = some r ∧ Q (.bl (if neg then !r.isSome else r.isSome)) H) (tE C f) (tC (.ref d)) σ H Q := by
  obtain ⟨e, s, o⟩ := h
  refine ⟨e, s, (Out.bind o).imp (fun q hq => ?_) fun _ _ z => z⟩
  intro v H1 x1 s1 i1
  unfold inKt at hq
  split at hq
  · rename_i z e1
    rw [e1] at i1
    cases i1
    split at hq
    · rename_i r hr
      have h2 := T.get _ (lookS_mem hr)
      cases r with
      | none => exact ⟨z, none, rfl, rfl, by rw [← hK]; exact h2, hq _ H1 x1 s1 rfl⟩
      | some r =>
        obtain ⟨u, v, h3, _⟩ := h2
        exact ⟨z, some u, rfl, rfl, by rw [← hK]; exact h3, hq _ H1 x1 s1 rfl⟩
    · exact hq.elim
  · exact hq.elim
theorem jt_notInK (hK : C.k.K = X.K) (T : KTab C.k X.w d tbl) (hg : Gl X x) (hm : X.mg x = some (.ref d)) (ha : PE X a (tE C f)) (hdb : (x == ("__debug__" : Str)) = false := by decide) (hmk : behindInMarks .NotIn (.Name x px) = false := by rfl) : PT X (.Compare a [.NotIn] [.Name x px] pos) (tT C (tst (un1 (inKt true tbl) f))) := by
  obtain ⟨es, n, kd⟩ := T.kd
  have kd' : KDict X.K X.w d es n := by
    rw [← hK]
    exact kd
  exact PT.imp (pt_cmpR (op_notIn_kd kd') ha (pe_glob (v := .ref d) hg hm rfl hdb) hmk) fun σ H Q h => tE_inK (neg := true) hK T σ H _ (tT_test σ H Q h)
theorem jt_inK (hK : C.k.K = X.K) (T : KTab C.k X.w d tbl) (hg : Gl X x) (hm : X.mg x = some (.ref d)) (ha : PE X a (tE C f)) (hdb : (x == ("__debug__" : Str)) = false := by decide) (hmk : behindInMarks .In (.Name x px) = false := by rfl) : PT X (.Compare a [.In] [.Name x px] pos) (tT C (tst (un1 (inKt false tbl) f))) := by
  obtain ⟨es, n, kd⟩ := T.kd
  have kd' : KDict X.K X.w d es n := by
    rw [← hK]
    exact kd
  exact PT.imp (pt_cmpR (op_in_kd kd') ha (pe_glob (v := .ref d) hg hm rfl hdb) hmk) fun σ H Q h => tE_inK (neg := false) hK T σ H _ (tT_test σ H Q h)
end
/-! ### a table of the module, as the head tells it -/
def ktOne (K : PySem.W.Frag) (fnA : Nat → Option Addr) (d : Addr) (q : Str × Option D) : Bool := match q.2 with
  | none => He.eqO (PySem.W.nsIn K d q.1) (some none)
  | some (.tup [.int n, .fn j]) => match PySem.W.nsIn K d q.1 with
    | some (some (.ref t)) => match K.lookup t with
      | some ⟨.type c, none, .seq its _, _⟩ => match its.toList with
        | [.int m _, .ref f] => decide (c = "tuple") && (decide (m = n) && decide (fnA j = some f))
        | _ => false
      | _ => false
    | _ => false
  | _ => false
theorem ktOne_ok {K : PySem.W.Frag} {fnA : Nat → Option Addr} {d : Addr} {q : Str × Option D} (h : ktOne K fnA d q = true) : match q.2 with
    | none => PySem.W.nsIn K d q.1 = some none
    | some r => ∃ u v, PySem.W.nsIn K d q.1 = some (some u) ∧ RelV v u ∧ ∀ H M, IsD (kx K fnA) H M r v := by
  obtain ⟨z, r⟩ := q
  unfold ktOne at h
  cases r with
  | none => exact He.eqO_ok h
  | some r =>
    dsimp only at h ⊢
    split at h
    · rename_i hh
      cases hh
    · rename_i n j hh
      cases hh
      split at h
      · rename_i t e1
        split at h
        · rename_i c its nn sl e2
          split at h
          · rename_i m tk f e3
            obtain ⟨h1, h2⟩ := He.ba h
            obtain ⟨h3, h4⟩ := He.ba h2
            have h1 := of_decide_eq_true h1
            have h3 := of_decide_eq_true h3
            have h4 := of_decide_eq_true h4
            subst h1 h3
            refine ⟨.ref t, .ref t, e1, rfl, fun H M => ⟨t, [.int m, .ref f], rfl, .inr ⟨_, its, nn, e2, rfl, rfl, ?_, ?_⟩, _, _, rfl, rfl, _, _, rfl, ⟨f, rfl, h4⟩, rfl⟩⟩
            · have : its.size = 2 := by
                rw [← Array.length_toList, e3]
                rfl
              rw [this]
              decide
            · rw [e3]
              exact .cons ⟨tk, rfl⟩ (.cons rfl .nil)
          · cases h
        · cases h
      · cases h
    · cases h
theorem kt_of {K : PySem.W.Frag} {w : World} {fnA : Nat → Option Addr} {d : Addr} {tbl : List (Str × Option D)} (hd : ∃ es n, KDict K w d es n) (h : tbl.all (ktOne K fnA d) = true) : KTab (kx K fnA) w d tbl := ⟨hd, fun q hq => ktOne_ok (List.all_eq_true.mp h q hq)⟩
/-! ### the law's end -/
theorem scr_in {K : PySem.W.Frag} {fn : Nat → Option Addr} {M : Addr → Prop} {H : Hp} {a : Addr} {ns : List Int} (hO : Only H) (hS : SqL K H a (ns.map V.int)) : IsD (kx K fn) H M (.scr ns) (.ref a) := by
  refine ⟨a, rfl, fun H' hf => ?_⟩
  rcases hS with (h | ⟨o, h⟩) | h
  · rcases hO a with z | ⟨o, xs, z⟩
    · rw [h] at z
      cases z
    · rw [h] at z
      cases z
  · exact .inl (.inr ⟨o, hf _ _ h⟩)
  · exact .inr h
theorem law_sp {K : PySem.W.Frag} {fn : Nat → Option Addr} {F : List D → R D} {H : Hp} {a : Addr} {ns : List Int} (hO : Only H) (hS : SqL K H a (ns.map V.int)) (hF : F [.scr ns] = .ok (.bl true)) : spP (kx K fn) 1 false F [.ref a] H (fun v _ => v = .bl true) fun _ _ _ => False := by
  refine ⟨fun _ => False, [.scr ns], rfl, .cons (scr_in hO hS) .nil, fun _ z => z.elim, ?_⟩
  rw [hF]
  exact fun v H' _ iv _ => iv
end Dn

namespace Dn
open PySem PySem.Spec PyProof.Rows L2
/-! ### the readings as a simp set -/
@[simp] theorem bind_ite {α β : Type} (c : Prop) [Decidable c] (a b : R α) (k : α → R β) : (if c then a else b).bind k = if c then a.bind k else b.bind k := by
  by_cases h : c <;> simp [h]
@[simp] theorem at_ite {α : Type} (c : Prop) [Decidable c] (a b : R α) (e : Lc) : (if c then a else b).at e = if c then a.at e else b.at e := by
  by_cases h : c <;> simp [h]
def seqK (r : R (Fl × Lc)) (g : MS) : R (Fl × Lc) := r.bind fun p => match p.1 with
  | .nx => g p.2
  | fl => .ok (fl, p.2)
@[simp] theorem s_seq (f g : MS) (e : Lc) : seqS f g e = seqK (f e) g := rfl
@[simp] theorem seqK_nx (e : Lc) (g : MS) : seqK (.ok (.nx, e)) g = g e := rfl
@[simp] theorem seqK_rt (e : Lc) (d : D) (g : MS) : seqK (.ok (.rt d, e)) g = .ok (.rt d, e) := rfl
@[simp] theorem seqK_bad (g : MS) : seqK .bad g = .bad := rfl
@[simp] theorem seqK_ite (c : Prop) [Decidable c] (a b : R (Fl × Lc)) (g : MS) : seqK (if c then a else b) g = if c then seqK a g else seqK b g := by
  by_cases h : c <;> simp [h]
@[simp] theorem s_nx (e : Lc) : nxS e = .ok (.nx, e) := rfl
@[simp] theorem s_ret (f : MD D) (e : Lc) : retS f e = (f e).bind fun p => .ok (.rt p.1, p.2) := rfl
@[simp] theorem s_if (t : MD Bool) (f g : MS) (e : Lc) : ifS t f g e = (t e).bind fun p => if p.1 = true then f p.2 else g p.2 := by
  unfold ifS
  congr 1
  funext p
  cases p.1 <;> rfl
@[simp] theorem s_ifV (t : MD Bool) (f g : MD D) (e : Lc) : ifV t f g e = (t e).bind fun p => if p.1 = true then f p.2 else g p.2 := by
  unfold ifV
  congr 1
  funext p
  cases p.1 <;> rfl
@[simp] theorem s_andT (f g : MD Bool) (e : Lc) : andT f g e = (f e).bind fun p => if p.1 = true then g p.2 else .ok (false, p.2) := by
  unfold andT
  congr 1
  funext p
  cases p.1 <;> rfl
@[simp] theorem s_orT (f g : MD Bool) (e : Lc) : orT f g e = (f e).bind fun p => if p.1 = true then .ok (true, p.2) else g p.2 := by
  unfold orT
  congr 1
  funext p
  cases p.1 <;> rfl
@[simp] theorem s_notT (f : MD Bool) (e : Lc) : notT f e = (f e).bind fun p => .ok (!p.1, p.2) := rfl
def andK (d : D) (r s : R (D × Lc)) : R (D × Lc) := match d with
  | .bl true => r
  | .bl false => s
  | _ => .bad
@[simp] theorem andK_bl (b : Bool) (r s : R (D × Lc)) : andK (.bl b) r s = if b = true then r else s := by
  cases b <;> rfl
@[simp] theorem s_andV (f g : MD D) (e : Lc) : andV f g e = (f e).bind fun p => andK p.1 (g p.2) (.ok (.bl false, p.2)) := by
  unfold andV
  congr 1
@[simp] theorem s_orV (f g : MD D) (e : Lc) : orV f g e = (f e).bind fun p => andK p.1 (.ok (.bl true, p.2)) (g p.2) := by
  unfold orV
  congr 1
@[simp] theorem s_notV (f : MD D) (e : Lc) : notV f e = (f e).bind fun p => match p.1 with
  | .bl b => .ok (.bl (!b), p.2)
  | _ => .bad := rfl
@[simp] theorem s_bin2 (op : D → D → R D) (f g : MD D) (e : Lc) : bin2 op f g e = (f e).bind fun p => (g p.2).bind fun q => (op p.1 q.1).at q.2 := rfl
@[simp] theorem s_un1 (op : D → R D) (f : MD D) (e : Lc) : un1 op f e = (f e).bind fun p => (op p.1).at p.2 := rfl
@[simp] theorem s_cst (d : D) (e : Lc) : cst d e = .ok (d, e) := rfl
@[simp] theorem s_tst (f : MD D) (e : Lc) : tst f e = (f e).bind fun p => match p.1 with
  | .bl b => .ok (b, p.2)
  | _ => .bad := rfl
@[simp] theorem s_tru (f : MD D) (e : Lc) : tru f e = (f e).bind fun p => (truR p.1).at p.2 := rfl
@[simp] theorem s_nilA (e : Lc) : nilA e = .ok ([], e) := rfl
@[simp] theorem s_consA (f : MD D) (g : MD (List D)) (e : Lc) : consA f g e = (f e).bind fun p => (g p.2).bind fun q => .ok (p.1 :: q.1, q.2) := rfl
@[simp] theorem s_callD (F : List D → R D) (fa : MD (List D)) (e : Lc) : callD F fa e = (fa e).bind fun p => (F p.1).at p.2 := rfl
@[simp] theorem s_calM (F : List D → R D) (dd : List D) (fa : MD (List D)) (e : Lc) : calM F dd fa e = (fa e).bind fun p => (F (p.1 ++ dd)).at p.2 := rfl
@[simp] theorem s_asL (f : MD (List D)) (e : Lc) : asL f e = (f e).bind fun p => .ok (.lst p.1, p.2) := rfl
@[simp] theorem s_seqM (f : MD D) (e : Lc) : seqM f e = (f e).bind fun q => match q.1 with
  | .lst ds => .ok (ds, q.2)
  | .tup ds => .ok (ds, q.2)
  | _ => .bad := rfl
@[simp] theorem s_setS (i : Nat) (f : MD D) (e : Lc) : setS i f e = (f e).bind fun p => .ok (.nx, p.2.set i (some p.1)) := rfl
@[simp] theorem s_setO (i : Nat) (f : MD (List D)) (e : Lc) : setO i f e = (f e).bind fun p => .ok (.nx, p.2.set i (some (.lst p.1))) := rfl
@[simp] theorem s_asg (f : MD D) (g : GD) (e : Lc) : asgS f g e = (f e).bind fun p => (g p.1 p.2).bind fun e' => .ok (.nx, e') := rfl
@[simp] theorem s_nmG (i : Nat) (d : D) (e : Lc) : nmG i d e = .ok (e.set i (some d)) := rfl
@[simp] theorem s_tupE (g : MD (List D)) (e : Lc) : tupE g e = (g e).bind fun q => (szR q.1 (.tup q.1)).at q.2 := rfl
@[simp] theorem s_lstE (g : MD (List D)) (e : Lc) : lstE g e = (g e).bind fun q => (szR q.1 (.lst q.1)).at q.2 := rfl
@[simp] theorem s_parS (i j : Nat) (f g : MD D) (e : Lc) : parS i j f g e = (f e).bind fun p => (g p.2).bind fun q => .ok (.nx, (q.2.set i (some p.1)).set j (some q.1)) := rfl
@[simp] theorem s_forM (f : MD (List D)) (g : GD) (b : MS) (e : Lc) : forM f g b e = (f e).bind fun p => forS g b p.1 p.2 := rfl
@[simp] theorem s_vr0 (a : Option D) (e : Lc) (d : D) : vr 0 (some d :: e) = .ok (d, some d :: e) := rfl
theorem vr_get (i : Nat) (e : Lc) (d : D) (h : e[i]? = some (some d)) : vr i e = .ok (d, e) := by
  unfold vr
  rw [h]
def outB (nw : Bool) : R (Fl × Lc) → R D
  | .ok (.rt d, _) => .ok d
  | .ok (.nx, _) => if nw then .bad else .ok .non
  | .exc x _ => .exc x []
  | _ => .bad
theorem s_runB (N : Nat) (nw : Bool) (fb : MS) (ds : List D) : runB N nw fb ds = outB nw (fb (startL N ds)) := by
  unfold runB outB
  cases fb (startL N ds) with
  | ok p =>
    obtain ⟨fl, e⟩ := p
    cases fl <;> rfl
  | _ => rfl
@[simp] theorem outB_rt (nw : Bool) (d : D) (e : Lc) : outB nw (.ok (.rt d, e)) = .ok d := rfl
@[simp] theorem outB_bad (nw : Bool) : outB nw .bad = .bad := rfl
@[simp] theorem outB_ite (nw : Bool) (c : Prop) [Decidable c] (a b : R (Fl × Lc)) : outB nw (if c then a else b) = if c then outB nw a else outB nw b := by
  by_cases h : c <;> simp [h]
/-! ### plain reckoning with the readings -/
section
variable {i n : Nat} {e e1 : Lc} {d : D} {f g : MD D} {t u : MD Bool} {ss tt : MS}
theorem ev_vr (h : e[i]? = some (some d)) : vr i e = .ok (d, e) := by
  unfold vr
  rw [h]
theorem ev_cst : cst d e = .ok (d, e) := rfl
/-- the comprehension over one name, no tests, its element the same whatever stood there -/
theorem lcS_map {el : MD D} {hh : D → D} : ∀ (ds : List D), e[i]? = some none → (∀ d ∈ ds, el (e.set i (some d)) = .ok (hh d, e.set i (some d))) → lcS [i] (nmG i) yesT el ds e = .ok (ds.map hh, e)
  | [], _, _ => rfl
  | d :: ds, h0, h => by
    have h1 := h d (List.mem_cons_self ..)
    have hw : wipeL (e.set i (some d)) [i] = e := by
      show (e.set i (some d)).set i none = e
      rw [List.set_set]
      apply List.ext_getElem?
      intro j
      by_cases hj : i = j
      · subst hj
        rw [List.getElem?_set_self (by rw [List.getElem?_eq_some_iff] at h0; exact h0.1), h0]
      · rw [List.getElem?_set_ne hj]
    unfold lcS
    simp only [nmG, noX, R.bind_ok, yesT]
    rw [h1]
    simp only [noX, R.bind_ok]
    rw [hw, lcS_map ds h0 fun d' hd => h d' (List.mem_cons_of_mem _ hd)]
    rfl
/-- with a test -/
theorem lcS_filt {el : MD D} {t : MD Bool} {hh : D → D} {p : D → Bool} : ∀ (ds : List D), e[i]? = some none → (∀ d ∈ ds, t (e.set i (some d)) = .ok (p d, e.set i (some d))) → (∀ d ∈ ds, p d = true → el (e.set i (some d)) = .ok (hh d, e.set i (some d))) → lcS [i] (nmG i) t el ds e = .ok ((ds.filter p).map hh, e)
  | [], _, _, _ => rfl
  | d :: ds, h0, ht, h => by
    have h1 := h d (List.mem_cons_self ..)
    have h2 := ht d (List.mem_cons_self ..)
    have hw : wipeL (e.set i (some d)) [i] = e := by
      show (e.set i (some d)).set i none = e
      rw [List.set_set]
      apply List.ext_getElem?
      intro j
      by_cases hj : i = j
      · subst hj
        rw [List.getElem?_set_self (by rw [List.getElem?_eq_some_iff] at h0; exact h0.1), h0]
      · rw [List.getElem?_set_ne hj]
    have ih := lcS_filt (el := el) (t := t) (hh := hh) (p := p) ds h0 (fun d' hd => ht d' (List.mem_cons_of_mem _ hd)) fun d' hd => h d' (List.mem_cons_of_mem _ hd)
    unfold lcS
    simp only [nmG, noX, R.bind_ok]
    rw [h2]
    simp only [noX, R.bind_ok]
    cases hp : p d with
    | true =>
      dsimp only
      rw [h1 hp]
      simp only [noX, R.bind_ok]
      rw [hw, ih, List.filter_cons_of_pos hp]
      rfl
    | false =>
      dsimp only
      rw [hw, ih, List.filter_cons_of_neg (by rw [hp]; exact Bool.false_ne_true)]
theorem wipe1 : wipeL e [i] = e.set i none := rfl
theorem keep1 {e' : Lc} : keepL e e' [i] = e'.set i (e.getD i none) := rfl
theorem set_back (h : i < e.length) : (e.set i none).set i (e.getD i none) = e := by
  rw [List.set_set]
  apply List.ext_getElem?
  intro j
  by_cases hj : i = j
  · subst hj
    rw [List.getElem?_set_self h, List.getD_eq_getElem?_getD, List.getElem?_eq_getElem h]
    rfl
  · rw [List.getElem?_set_ne hj]
theorem lcM_map {el : MD D} {F : MD (List D)} {ds : List D} {hh : D → D} (hF : F e = .ok (ds, e)) (hz : ds.length ≤ sizeLine) (hi : i < e.length) (h : ∀ d ∈ ds, el (e.set i (some d)) = .ok (hh d, e.set i (some d))) : lcM [i] F (nmG i) yesT el e = .ok (ds.map hh, e) := by
  unfold lcM
  rw [hF]
  simp only [R.bind_ok]
  rw [if_pos hz, wipe1]
  have e0 : ∀ d, (e.set i none).set i (some d) = e.set i (some d) := fun d => List.set_set ..
  rw [lcS_map (hh := hh) ds (List.getElem?_set_self hi) fun d hd => by rw [e0]; exact h d hd]
  simp only [R.bind_ok, keep1]
  rw [set_back hi]
theorem lcM_filt {el : MD D} {t : MD Bool} {F : MD (List D)} {ds : List D} {hh : D → D} {p : D → Bool} (hF : F e = .ok (ds, e)) (hz : ds.length ≤ sizeLine) (hi : i < e.length) (ht : ∀ d ∈ ds, t (e.set i (some d)) = .ok (p d, e.set i (some d))) (h : ∀ d ∈ ds, p d = true → el (e.set i (some d)) = .ok (hh d, e.set i (some d))) : lcM [i] F (nmG i) t el e = .ok ((ds.filter p).map hh, e) := by
  unfold lcM
  rw [hF]
  simp only [R.bind_ok]
  rw [if_pos hz, wipe1]
  have e0 : ∀ d, (e.set i none).set i (some d) = e.set i (some d) := fun d => List.set_set ..
  rw [lcS_filt (hh := hh) (p := p) ds (List.getElem?_set_self hi) (fun d hd => by rw [e0]; exact ht d hd) fun d hd hp => by rw [e0]; exact h d hd hp]
  simp only [R.bind_ok, keep1]
  rw [set_back hi]
theorem blsD_map (p : D → Bool) : ∀ ds : List D, blsD (ds.map fun d => .bl (p d)) = some (ds.map p)
  | [] => rfl
  | d :: ds => by
    simp [blsD, blsD_map p ds]
end
@[simp] theorem ite_bl (c : Prop) [Decidable c] : (if c then R.ok (D.bl true) else R.ok (D.bl false)) = R.ok (D.bl (decide c)) := by
  by_cases h : c <;> simp [h]
@[simp] theorem ite_bl' (c : Prop) [Decidable c] (b : Bool) : (if c then R.ok (D.bl b) else R.ok (D.bl false)) = R.ok (D.bl (decide c && b)) := by
  by_cases h : c <;> simp [h]
@[simp] theorem ite_blF (c : Prop) [Decidable c] (b : Bool) : (if c then R.ok (D.bl false) else R.ok (D.bl b)) = R.ok (D.bl (!decide c && b)) := by
  by_cases h : c <;> simp [h]
theorem mulD_int (i j : Int) : mulD (.int i) (.int j) = if i.natAbs.log2 + j.natAbs.log2 < 1000000 then .ok (.int (i * j)) else .bad := rfl
theorem fdivD_int (i j : Int) : fdivD (.int i) (.int j) = if (0 < j ∧ j.natAbs.log2 < 9000) ∨ (j ≠ 0 ∧ j.natAbs < 1073741824) then .ok (.int (i.fdiv j)) else .bad := rfl
theorem lcS_gen {vs : List Nat} {g : GD} {el : MD D} {hh : D → D} {e : Lc} : ∀ (ds : List D), (∀ d ∈ ds, ∃ e1, g d e = .ok e1 ∧ el e1 = .ok (hh d, e1) ∧ wipeL e1 vs = e) → lcS vs g yesT el ds e = .ok (ds.map hh, e)
  | [], _ => rfl
  | d :: ds, h => by
    obtain ⟨e1, h1, h2, h3⟩ := h d (List.mem_cons_self ..)
    unfold lcS
    rw [h1]
    simp only [noX, R.bind_ok, yesT]
    rw [h2]
    simp only [noX, R.bind_ok]
    rw [h3, lcS_gen ds fun d' hd => h d' (List.mem_cons_of_mem _ hd)]
    rfl
theorem lcS2_flat {vs vs1 : List Nat} {g g1 : GD} {f1 : MD (List D)} {el : MD D} {L : D → List D} {e : Lc} {B : Nat} : ∀ (ds : List D) (n : Nat), (∀ d ∈ ds, ∃ e1 q er, g d e = .ok e1 ∧ f1 e1 = .ok (q, e1) ∧ q.length ≤ B ∧ (L d).length ≤ B ∧ lcS vs1 g1 yesT el q (wipeL e1 vs1) = .ok (L d, er) ∧ wipeL er vs = e) → n + B * ds.length ≤ sizeLine →
    lcS2 vs vs1 g yesT f1 g1 yesT el ds n e = .ok (ds.flatMap L, e)
  | [], n, _, _ => rfl
  | d :: ds, n, h, hz => by
    obtain ⟨e1, q, er, h1, h2, h3, h4, h5, h6⟩ := h d (List.mem_cons_self ..)
    rw [List.length_cons, Nat.mul_succ] at hz
    unfold lcS2
    rw [h1]
    simp only [noX, R.bind_ok, yesT]
    rw [h2]
    simp only [noX, R.bind_ok]
    rw [if_pos (by omega)]
    rw [h5]
    simp only [R.bind_ok]
    rw [h6]
    have ih := lcS2_flat (L := L) (B := B) ds (n + (L d).length) (fun d' hd => h d' (List.mem_cons_of_mem _ hd)) (by omega)
    rw [ih]
    rfl
theorem cut_take {α : Type} (xs : List α) (k : Nat) : cutG xs none (some (k : Int)) = xs.take k := by
  unfold cutG
  rw [HT.sIx_none, HT.sIx_nat, List.drop_zero, Nat.sub_zero]
  by_cases h : k ≤ xs.length
  · rw [Nat.min_eq_left h]
  · rw [Nat.min_eq_right (by omega), List.take_of_length_le (by omega), List.take_of_length_le (by omega)]
theorem cut_drop {α : Type} (xs : List α) (k : Nat) : cutG xs (some (k : Int)) none = xs.drop k := by
  unfold cutG
  rw [HT.sIx_none, HT.sIx_nat]
  by_cases h : k ≤ xs.length
  · rw [Nat.min_eq_left h, List.take_of_length_le (by rw [List.length_drop]; omega)]
  · rw [Nat.min_eq_right (by omega), Nat.sub_self, List.take_zero, List.drop_of_length_le (by omega)]
theorem sli_take {e : Lc} {i j k : Nat} {ds : List D} (hj : e[j]? = some (some (.tup ds))) (hi : e[i]? = some (some (.int k))) : sliE (vr j) noP (soP (vr i)) e = .ok (.tup (ds.take k), e) := by
  unfold sliE noP soP
  rw [vr_get _ _ _ hj]
  simp only [R.bind_ok]
  rw [vr_get _ _ _ hi]
  simp only [R.bind_ok, sliR, cut_take, R.at_ok]
theorem idx_tup {ds : List D} {k : Nat} {d : D} (h : ds[k]? = some d) : idxD (.tup ds) (.int k) = .ok d := by
  unfold idxD atI
  have : ixN ds.length (k : Int) = some k := by
    have := (List.getElem?_eq_some_iff.mp h).1
    unfold ixN
    simp
    omega
  simp only [this]
  simp [h]
/-- a loop that may be left by a return -/
theorem forS_rt {g : GD} {b : MS} {d r : D} {ds : List D} {e e1 e2 : Lc} (h1 : g d e = .ok e1) (h2 : b e1 = .ok (.rt r, e2)) : forS g b (d :: ds) e = .ok (.rt r, e2) := by
  unfold forS
  rw [h1]
  simp only [R.bind_ok]
  rw [h2]
  rfl
end Dn

namespace Dn
open PySem PySem.Spec PyProof.Rows L2
/-! ### what comes out, forwards -/
def Ok {α : Type} (r : R α) (Q : α → Prop) : Prop := ∃ a, r = .ok a ∧ Q a
def OkI (r : R (D × D)) (Q : D → D → Prop) : Prop := ∃ a b, r = .ok (a, b) ∧ Q a b
def Wp {α : Type} (m : Lc → R (α × Lc)) (e : Lc) (Q : α → Lc → Prop) : Prop := ∃ a e', m e = .ok (a, e') ∧ Q a e'
def SeqW (g : MS) (Q : Fl → Lc → Prop) (fl : Fl) (e : Lc) : Prop := match fl with
  | .nx => Wp g e Q
  | fl => Q fl e
def IfC (b : Bool) (A B : Prop) : Prop := (b = true → A) ∧ (b = false → B)
def BlC (d : D) (K : Bool → Prop) : Prop := ∃ b, d = .bl b ∧ K b
def GetC (i : Nat) (e : Lc) (K : D → Prop) : Prop := ∃ d, e[i]? = some (some d) ∧ K d
def GetL (i : Nat) (e : Lc) (K : List D → Prop) : Prop := ∃ d, e[i]? = some (some (.lst d)) ∧ K d
def LstC (d : D) (K : List D → Prop) : Prop := ∃ ds, d = .lst ds ∧ K ds
def NatC (d : D) (K : Nat → Prop) : Prop := ∃ n : Nat, d = .int n ∧ K n
def OneC (ds : List D) (K : D → Prop) : Prop := ∃ d, ds = [d] ∧ K d
theorem nat_c {K : Nat → Prop} {n : Nat} (h : K n) : NatC (.int n) K := ⟨n, rfl, h⟩
theorem nat_l {K : Nat → Prop} {n : Nat} (h : K (OfNat.ofNat n)) : NatC (.int (OfNat.ofNat n)) K := ⟨OfNat.ofNat n, rfl, h⟩
theorem nat_i {K : Nat → Prop} {i : Int} (hi : 0 ≤ i) (h : ∀ n : Nat, (n : Int) = i → K n) : NatC (.int i) K := ⟨i.toNat, by rw [Int.toNat_of_nonneg hi], h _ (Int.toNat_of_nonneg hi)⟩
theorem one_c {K : D → Prop} {d : D} (h : K d) : OneC [d] K := ⟨d, rfl, h⟩
def IntC (d : D) (K : Int → Prop) : Prop := ∃ i, d = .int i ∧ K i
theorem Ok.mono {α : Type} {r : R α} {P Q : α → Prop} (h : Ok r P) (f : ∀ a, P a → Q a) : Ok r Q := by
  obtain ⟨a, h1, h2⟩ := h
  exact ⟨a, h1, f a h2⟩
theorem OkI.mono {r : R (D × D)} {P Q : D → D → Prop} (h : OkI r P) (f : ∀ a b, P a b → Q a b) : OkI r Q := by
  obtain ⟨a, b, h1, h2⟩ := h
  exact ⟨a, b, h1, f a b h2⟩
theorem Wp.mono {α : Type} {m : Lc → R (α × Lc)} {e : Lc} {P Q : α → Lc → Prop} (h : Wp m e P) (f : ∀ a b, P a b → Q a b) : Wp m e Q := by
  obtain ⟨a, b, h1, h2⟩ := h
  exact ⟨a, b, h1, f a b h2⟩
theorem o_ok {α : Type} {a : α} {Q : α → Prop} (h : Q a) : Ok (.ok a) Q := ⟨a, rfl, h⟩
theorem o_eq {α : Type} {r : R α} {a : α} {Q : α → Prop} (e : r = .ok a) (h : Q a) : Ok r Q := ⟨a, e, h⟩
theorem o_out {α : Type} {r : R α} {a : α} (h : Ok r fun x => x = a) : r = .ok a := by
  obtain ⟨b, h1, rfl⟩ := h
  exact h1
/-! conditions -/
section
variable {A B : Prop} {b : Bool} {c : Prop} [Decidable c]
theorem if_t (h : A) : IfC true A B := ⟨fun _ => h, fun z => by cases z⟩
theorem if_f (h : B) : IfC false A B := ⟨fun z => (by cases z), fun _ => h⟩
theorem if_n (h : IfC b B A) : IfC (!b) A B := ⟨fun z => h.2 (by simpa using z), fun z => h.1 (by simpa using z)⟩
theorem if_d (h1 : c → A) (h2 : ¬c → B) : IfC (decide c) A B := ⟨fun z => h1 (of_decide_eq_true z), fun z => h2 (of_decide_eq_false z)⟩
theorem if_e {i j : Int} (h1 : i = j → A) (h2 : i ≠ j → B) : IfC (i == j) A B := ⟨fun z => h1 (by simpa using z), fun z => h2 (by simpa using z)⟩
theorem if_s {i j : Str} (h1 : i = j → A) (h2 : i ≠ j → B) : IfC (i == j) A B := ⟨fun z => h1 (by simpa using z), fun z => h2 (by simpa using z)⟩
theorem if_v (h1 : b = true → A) (h2 : b = false → B) : IfC b A B := ⟨h1, h2⟩
theorem bl_c {K : Bool → Prop} (h : K b) : BlC (.bl b) K := ⟨b, rfl, h⟩
theorem lst_c {K : List D → Prop} {ds : List D} (h : K ds) : LstC (.lst ds) K := ⟨ds, rfl, h⟩
theorem int_c {K : Int → Prop} {i : Int} (h : K i) : IntC (.int i) K := ⟨i, rfl, h⟩
theorem get_c {i : Nat} {e : Lc} {d : D} {K : D → Prop} (h : e[i]? = some (some d)) (k : K d) : GetC i e K := ⟨d, h, k⟩
theorem get_l {i : Nat} {e : Lc} {d : List D} {K : List D → Prop} (h : e[i]? = some (some (.lst d))) (k : K d) : GetL i e K := ⟨d, h, k⟩
end
/-! statements, expressions -/
section
variable {α : Type} {f g : MS} {fl : Fl} {e : Lc} {Q : Fl → Lc → Prop} {QD : D → Lc → Prop} {QB : Bool → Lc → Prop} {QL : List D → Lc → Prop} {QO : Option Int → Lc → Prop} {QG : Lc → Prop}
  {x y : MD D} {t u : MD Bool} {a : MD (List D)} {l o : MD (Option Int)} {i j n : Nat} {d : D} {ds : List D} {gd : GD}
theorem w_seq (h : Wp f e (SeqW g Q)) : Wp (seqS f g) e Q := by
  obtain ⟨fl, e', h1, h2⟩ := h
  show ∃ _ _, _ ∧ _
  rw [s_seq, h1]
  cases fl with
  | nx => exact h2
  | rt d => exact ⟨_, _, rfl, h2⟩
  | bk => exact ⟨_, _, rfl, h2⟩
  | ct => exact ⟨_, _, rfl, h2⟩
theorem q_nx (h : Wp g e Q) : SeqW g Q .nx e := h
theorem q_rt (h : Q (.rt d) e) : SeqW g Q (.rt d) e := h
theorem w_nx (h : Q .nx e) : Wp nxS e Q := ⟨_, _, rfl, h⟩
theorem w_ret (h : Wp x e fun d e1 => Q (.rt d) e1) : Wp (retS x) e Q := by
  obtain ⟨d, e', h1, h2⟩ := h
  exact ⟨_, _, by rw [s_ret, h1]; rfl, h2⟩
theorem w_if (h : Wp t e fun b e1 => IfC b (Wp f e1 Q) (Wp g e1 Q)) : Wp (ifS t f g) e Q := by
  obtain ⟨b, e', h1, h2⟩ := h
  show ∃ _ _, _ ∧ _
  rw [s_if, h1]
  cases b with
  | true => exact h2.1 rfl
  | false => exact h2.2 rfl
theorem w_ifV (h : Wp t e fun b e1 => IfC b (Wp x e1 QD) (Wp y e1 QD)) : Wp (ifV t x y) e QD := by
  obtain ⟨b, e', h1, h2⟩ := h
  show ∃ _ _, _ ∧ _
  rw [s_ifV, h1]
  cases b with
  | true => exact h2.1 rfl
  | false => exact h2.2 rfl
theorem w_andT (h : Wp t e fun b e1 => IfC b (Wp u e1 QB) (QB false e1)) : Wp (andT t u) e QB := by
  obtain ⟨b, e', h1, h2⟩ := h
  show ∃ _ _, _ ∧ _
  rw [s_andT, h1]
  cases b with
  | true => exact h2.1 rfl
  | false => exact ⟨_, _, rfl, h2.2 rfl⟩
theorem w_orT (h : Wp t e fun b e1 => IfC b (QB true e1) (Wp u e1 QB)) : Wp (orT t u) e QB := by
  obtain ⟨b, e', h1, h2⟩ := h
  show ∃ _ _, _ ∧ _
  rw [s_orT, h1]
  cases b with
  | true => exact ⟨_, _, rfl, h2.1 rfl⟩
  | false => exact h2.2 rfl
theorem w_notT (h : Wp t e fun b e1 => QB (!b) e1) : Wp (notT t) e QB := by
  obtain ⟨b, e', h1, h2⟩ := h
  exact ⟨_, _, by rw [s_notT, h1]; rfl, h2⟩
theorem w_andV (h : Wp x e fun d e1 => BlC d fun b => IfC b (Wp y e1 QD) (QD (.bl false) e1)) : Wp (andV x y) e QD := by
  obtain ⟨_, e', h1, b, rfl, h2⟩ := h
  show ∃ _ _, _ ∧ _
  rw [s_andV, h1]
  cases b with
  | true => exact h2.1 rfl
  | false => exact ⟨_, _, rfl, h2.2 rfl⟩
theorem w_orV (h : Wp x e fun d e1 => BlC d fun b => IfC b (QD (.bl true) e1) (Wp y e1 QD)) : Wp (orV x y) e QD := by
  obtain ⟨_, e', h1, b, rfl, h2⟩ := h
  show ∃ _ _, _ ∧ _
  rw [s_orV, h1]
  cases b with
  | true => exact ⟨_, _, rfl, h2.1 rfl⟩
  | false => exact h2.2 rfl
theorem w_notV (h : Wp x e fun d e1 => BlC d fun b => QD (.bl (!b)) e1) : Wp (notV x) e QD := by
  obtain ⟨_, e', h1, b, rfl, h2⟩ := h
  exact ⟨_, _, by rw [s_notV, h1]; rfl, h2⟩
theorem w_bin2 {op : D → D → R D} (h : Wp x e fun d e1 => Wp y e1 fun d2 e2 => Ok (op d d2) fun r => QD r e2) : Wp (bin2 op x y) e QD := by
  obtain ⟨d, e1, h1, d2, e2, h2, r, h3, h4⟩ := h
  exact ⟨r, e2, by simp only [s_bin2, h1, h2, h3, R.bind_ok, R.at_ok], h4⟩
theorem w_un1 {op : D → R D} (h : Wp x e fun d e1 => Ok (op d) fun r => QD r e1) : Wp (un1 op x) e QD := by
  obtain ⟨d, e1, h1, r, h3, h4⟩ := h
  exact ⟨r, e1, by simp only [s_un1, h1, h3, R.bind_ok, R.at_ok], h4⟩
theorem w_cst (h : QD d e) : Wp (cst d) e QD := ⟨_, _, rfl, h⟩
theorem w_vr (h : e[i]? = some (some d)) (k : QD d e) : Wp (vr i) e QD := ⟨_, _, vr_get _ _ _ h, k⟩
theorem w_tst (h : Wp x e fun d e1 => BlC d fun b => QB b e1) : Wp (tst x) e QB := by
  obtain ⟨_, e', h1, b, rfl, h2⟩ := h
  exact ⟨_, _, by rw [s_tst, h1]; rfl, h2⟩
theorem w_tru (h : Wp x e fun d e1 => Ok (truR d) fun b => QB b e1) : Wp (tru x) e QB := by
  obtain ⟨d, e', h1, b, h3, h2⟩ := h
  exact ⟨_, _, by rw [s_tru, h1, R.bind_ok, h3]; rfl, h2⟩
theorem w_nilA (h : QL [] e) : Wp nilA e QL := ⟨_, _, rfl, h⟩
theorem w_consA (h : Wp x e fun d e1 => Wp a e1 fun ds e2 => QL (d :: ds) e2) : Wp (consA x a) e QL := by
  obtain ⟨d, e1, h1, ds, e2, h2, h3⟩ := h
  exact ⟨_, _, by simp only [s_consA, h1, h2, R.bind_ok], h3⟩
theorem w_callD {F : List D → R D} (h : Wp a e fun ds e1 => Ok (F ds) fun r => QD r e1) : Wp (callD F a) e QD := by
  obtain ⟨ds, e1, h1, r, h3, h4⟩ := h
  exact ⟨r, e1, by simp only [s_callD, h1, h3, R.bind_ok, R.at_ok], h4⟩
theorem w_calM {F : List D → R D} {dd : List D} (h : Wp a e fun ds e1 => Ok (F (ds ++ dd)) fun r => QD r e1) : Wp (calM F dd a) e QD := by
  obtain ⟨ds, e1, h1, r, h3, h4⟩ := h
  exact ⟨r, e1, by simp only [s_calM, h1, h3, R.bind_ok, R.at_ok], h4⟩
theorem w_calK {F : List D → R D} {gg : List D → List D → List D} {k : MD (List D)} (h : Wp a e fun ds e1 => Wp k e1 fun es e2 => Ok (F (gg ds es)) fun r => QD r e2) : Wp (calK F gg a k) e QD := by
  obtain ⟨ds, e1, h1, es, e2, h2, r, h3, h4⟩ := h
  exact ⟨r, e2, by simp only [calK, h1, h2, h3, R.bind_ok, R.at_ok], h4⟩
theorem w_calI {F : D → List D → R (D × D)} (h0 : GetC i e fun _ => Wp a e fun ds e1 => GetC i e1 fun d0 => OkI (F d0 ds) fun r d1 => QD r (e1.set i (some d1))) : Wp (calI F i a) e QD := by
  obtain ⟨_, h0, ds, e1, h1, d0, h2, r, d1, h3, h4⟩ := h0
  exact ⟨r, _, by simp only [calI, h0, h1, h2, h3, R.bind_ok, noX], h4⟩
theorem w_caIF {F : D → List D → R (D × D)} (h0 : GetC i e fun _ => Wp a e fun ds e1 => GetC i e1 fun d0 => OkI (F d0 ds) fun r d1 => LstC r fun rs => QL rs (e1.set i (some d1))) : Wp (caIF F i a) e QL := by
  obtain ⟨_, h0, ds, e1, h1, d0, h2, _, d1, h3, rs, rfl, h4⟩ := h0
  exact ⟨rs, _, by simp only [caIF, h0, h1, h2, h3, R.bind_ok, noX], h4⟩
theorem w_calF {F : List D → R D} {dd : List D} (h : Wp a e fun ds e1 => Ok (F (ds ++ dd)) fun r => LstC r fun rs => QL rs e1) : Wp (calF F dd a) e QL := by
  obtain ⟨ds, e1, h1, _, h3, rs, rfl, h4⟩ := h
  exact ⟨rs, e1, by simp only [calF, lstR, h1, h3, R.bind_ok, R.at_ok], h4⟩
theorem w_caN {F : D → List D → R (D × D)} {ff : MD (List D)} (h : Wp ff e fun ps e0 => Wp a e0 fun ds e1 => OkI (F (.lst ps) ds) fun r _ => BlC r fun b => QD (.bl b) e1) : Wp (caN F ff a) e QD := by
  obtain ⟨ps, e0, h0, ds, e1, h1, _, d1, h3, b, rfl, h4⟩ := h
  exact ⟨_, e1, by simp only [caN, h0, h1, h3, R.bind_ok, noX], h4⟩
theorem w_asL (h : Wp a e fun ds e1 => QD (.lst ds) e1) : Wp (asL a) e QD := by
  obtain ⟨ds, e1, h1, h2⟩ := h
  exact ⟨_, _, by rw [s_asL, h1]; rfl, h2⟩
def SqC (d : D) (K : List D → Prop) : Prop := ∃ ds, (d = .lst ds ∨ d = .tup ds) ∧ K ds
theorem sq_l {K : List D → Prop} (h : K ds) : SqC (.lst ds) K := ⟨ds, .inl rfl, h⟩
theorem sq_t {K : List D → Prop} (h : K ds) : SqC (.tup ds) K := ⟨ds, .inr rfl, h⟩
theorem w_seqM (h : Wp x e fun d e1 => SqC d fun ds => QL ds e1) : Wp (seqM x) e QL := by
  obtain ⟨_, e1, h1, ds, rfl | rfl, h2⟩ := h
  · exact ⟨_, _, by rw [s_seqM, h1]; rfl, h2⟩
  · exact ⟨_, _, by rw [s_seqM, h1]; rfl, h2⟩
theorem w_setS (h : Wp x e fun d e1 => Q .nx (e1.set i (some d))) : Wp (setS i x) e Q := by
  obtain ⟨d, e1, h1, h2⟩ := h
  exact ⟨_, _, by rw [s_setS, h1]; rfl, h2⟩
theorem w_setO (h : Wp a e fun ds e1 => Q .nx (e1.set i (some (.lst ds)))) : Wp (setO i a) e Q := by
  obtain ⟨d, e1, h1, h2⟩ := h
  exact ⟨_, _, by rw [s_setO, h1]; rfl, h2⟩
theorem w_asg (h : Wp x e fun d e1 => Ok (gd d e1) fun e2 => Q .nx e2) : Wp (asgS x gd) e Q := by
  obtain ⟨d, e1, h1, e2, h2, h3⟩ := h
  exact ⟨_, _, by simp only [s_asg, h1, h2, R.bind_ok], h3⟩
theorem w_exp (h : Wp x e fun _ e1 => Q .nx e1) : Wp (expS x) e Q := by
  obtain ⟨d, e1, h1, h2⟩ := h
  exact ⟨_, _, by unfold expS; rw [h1]; rfl, h2⟩
theorem w_tupE (h : Wp a e fun ds e1 => ds.length ≤ sizeLine ∧ QD (.tup ds) e1) : Wp (tupE a) e QD := by
  obtain ⟨ds, e1, h1, h2, h3⟩ := h
  exact ⟨_, _, by simp only [s_tupE, h1, R.bind_ok, szR, if_pos h2, R.at_ok], h3⟩
theorem w_lstE (h : Wp a e fun ds e1 => ds.length ≤ sizeLine ∧ QD (.lst ds) e1) : Wp (lstE a) e QD := by
  obtain ⟨ds, e1, h1, h2, h3⟩ := h
  exact ⟨_, _, by simp only [s_lstE, h1, R.bind_ok, szR, if_pos h2, R.at_ok], h3⟩
theorem w_szA (h : Wp a e fun ds e1 => ds.length ≤ sizeLine ∧ QL ds e1) : Wp (szA a) e QL := by
  obtain ⟨ds, e1, h1, h2, h3⟩ := h
  exact ⟨_, _, by simp only [szA, h1, R.bind_ok, if_pos h2], h3⟩
theorem w_parS (h : Wp x e fun d e1 => Wp y e1 fun d2 e2 => Q .nx ((e2.set i (some d)).set j (some d2))) : Wp (parS i j x y) e Q := by
  obtain ⟨d, e1, h1, d2, e2, h2, h3⟩ := h
  exact ⟨_, _, by simp only [s_parS, h1, h2, R.bind_ok], h3⟩
theorem w_parS2 (h : Wp x e fun d e1 => Wp a e1 fun ds e2 => Q .nx ((e2.set i (some d)).set j (some (.lst ds)))) : Wp (parS2 i j x a) e Q := by
  obtain ⟨d, e1, h1, d2, e2, h2, h3⟩ := h
  exact ⟨_, _, by simp only [parS2, h1, h2, R.bind_ok], h3⟩
theorem w_parS1 (h : Wp a e fun ds e1 => Wp y e1 fun d e2 => Q .nx ((e2.set i (some (.lst ds))).set j (some d))) : Wp (parS1 i j a y) e Q := by
  obtain ⟨d, e1, h1, d2, e2, h2, h3⟩ := h
  exact ⟨_, _, by simp only [parS1, h1, h2, R.bind_ok, noX], h3⟩
theorem w_oix (h : GetL i e fun _ => Wp x e fun d e1 => GetL i e1 fun ds => Ok (idxD (.lst ds) d) fun r => QD r e1) : Wp (oix i x) e QD := by
  obtain ⟨_, h0, d, e1, h1, ds, h2, r, h3, h4⟩ := h
  exact ⟨r, e1, by simp only [oix, h0, h1, h2, h3, R.bind_ok, R.at_ok], h4⟩
theorem w_isL (h : GetL i e fun _ => Wp f e Q) : Wp (isL i f) e Q := by
  obtain ⟨_, h0, fl, e1, h1, h2⟩ := h
  exact ⟨fl, e1, by simp only [isL, h0, h1], h2⟩
theorem w_appS (h : Wp x e fun d e1 => GetL i e1 fun ds => ds.length < sizeLine ∧ Q .nx (e1.set i (some (.lst (ds ++ [d]))))) : Wp (appS i x) e Q := by
  obtain ⟨d, e1, h1, ds, h2, h3, h4⟩ := h
  exact ⟨_, _, by simp only [appS, h1, h2, R.bind_ok, if_pos h3], h4⟩
theorem w_popK (h : GetL i e fun _ => Wp x e fun d e1 => GetL i e1 fun ds => NatC d fun k => ∃ r : D, ds[k]? = some r ∧ ds.length < 2 ^ 63 ∧ QD r (e1.set i (some (.lst (ds.eraseIdx k))))) : Wp (popK i x) e QD := by
  obtain ⟨_, h0, _, e1, h1, ds, h2, k, rfl, r, h3, h4, h5⟩ := h
  have hk : k < ds.length := (List.getElem?_eq_some_iff.mp h3).1
  have hs : seqIndex? (k : Int) ds.length = some k := by
    unfold seqIndex?
    simp
    omega
  have hz : -(2 ^ 63) ≤ (k : Int) ∧ (k : Int) < 2 ^ 63 := by omega
  exact ⟨r, _, by simp only [popK, h0, h1, h2, R.bind_ok, if_pos hz, hs, h3], h5⟩
theorem w_insK (h : GetL i e fun _ => Wp x e fun d e1 => Wp y e1 fun d2 e2 => GetL i e2 fun ds => NatC d fun k => k < 2 ^ 63 ∧ ds.length < sizeLine ∧ QD .non (e2.set i (some (.lst (ds.take k ++ [d2] ++ ds.drop k))))) : Wp (insK i x y) e QD := by
  obtain ⟨_, h0, _, e1, h1, d2, e2, h2, ds, h3, k, rfl, h4, h5, h6⟩ := h
  exact ⟨_, _, by simp only [insK, h0, h1, h2, h3, R.bind_ok]; rw [if_pos (by omega), Int.toNat_natCast], h6⟩
theorem rg62 {n : Nat} (h : n ≤ 1000000) : -(2 ^ 62) ≤ (n : Int) ∧ (n : Int) < 2 ^ 62 := by
  have h1 : (n : Int) ≤ 1000000 := Int.ofNat_le.mpr h
  have h2 : (0 : Int) ≤ (n : Int) := Int.natCast_nonneg n
  exact ⟨Int.le_trans (by decide) h2, Int.lt_of_le_of_lt h1 (by decide)⟩
def oneL (K : Int → R (List D × Lc)) : List D → R (List D × Lc)
  | [.int j] => K j
  | _ => .bad
def oneD (K : Int → R (List D × Lc)) : D → R (List D × Lc)
  | .int j => K j
  | _ => .bad
theorem rng1M_eq (a : MD (List D)) (e : Lc) : rng1M a e = (a e).bind fun q => oneL (fun j => if -(2 ^ 62) ≤ j ∧ j < 2 ^ 62 then .ok (rngL 0 j.toNat, q.2) else .bad) q.1 := rfl
theorem rngF1_eq (a : MD D) (e : Lc) : rngF1 a e = (a e).bind fun q => oneD (fun j => if -(2 ^ 62) ≤ j ∧ j < 2 ^ 62 ∧ j.toNat ≤ 2 ^ 24 then .ok (rngL 0 j.toNat, q.2) else .bad) q.1 := rfl
theorem oneL_c (K : Int → R (List D × Lc)) (n : Int) : oneL K [.int n] = K n := rfl
theorem oneD_c (K : Int → R (List D × Lc)) (n : Int) : oneD K (.int n) = K n := rfl
theorem rng1M_ok {a : MD (List D)} {e e1 : Lc} {n : Nat} (h : a e = .ok ([.int n], e1)) (hn : n ≤ 1000000) : rng1M a e = .ok (rngL 0 n, e1) := by
  rw [rng1M_eq, h, R.bind_ok]
  show oneL _ [.int n] = _
  rw [oneL_c, if_pos (rg62 hn), Int.toNat_natCast]
theorem w_rngF1 (h : Wp x e fun d e1 => NatC d fun n => n ≤ 1000000 ∧ QL (rngL 0 n) e1) : Wp (rngF1 x) e QL := by
  obtain ⟨_, e1, h1, n, rfl, h2, h3⟩ := h
  have hz : -(2 ^ 62) ≤ (n : Int) ∧ (n : Int) < 2 ^ 62 ∧ (n : Int).toNat ≤ 2 ^ 24 := ⟨(rg62 h2).1, (rg62 h2).2, by rw [Int.toNat_natCast]; exact Nat.le_trans h2 (by decide)⟩
  refine ⟨_, _, ?_, h3⟩
  rw [rngF1_eq, h1, R.bind_ok]
  show oneD _ (.int n) = _
  rw [oneD_c, if_pos hz, Int.toNat_natCast]
theorem w_rng1M (h : Wp a e fun ds e1 => OneC ds fun d => NatC d fun n => n ≤ 1000000 ∧ QL (rngL 0 n) e1) : Wp (rng1M a) e QL := by
  obtain ⟨_, e1, h1, _, rfl, n, rfl, h2, h3⟩ := h
  exact ⟨_, _, rng1M_ok h1 h2, h3⟩
theorem w_callO {F : List D → R D} (h : GetC i e fun d => Ok (F [d]) fun r => QD r e) : Wp (callO F i) e QD := by
  obtain ⟨d, h0, r, h1, h2⟩ := h
  exact ⟨_, _, by simp only [callO, h0, h1, R.at_ok], h2⟩
theorem w_sliO (h : GetL i e fun _ => Wp l e fun lo e1 => Wp o e1 fun hi e2 => GetL i e2 fun ds => QD (.lst (cutG ds lo hi)) e2) : Wp (sliO i l o) e QD := by
  obtain ⟨_, h0, lo, e1, h1, hi, e2, h2, ds, h3, h4⟩ := h
  exact ⟨_, _, by simp only [sliO, h0, h1, h2, h3, R.bind_ok], h4⟩
theorem w_sliE (h : Wp x e fun d e1 => Wp l e1 fun lo e2 => Wp o e2 fun hi e3 => Ok (sliR lo hi d) fun r => QD r e3) : Wp (sliE x l o) e QD := by
  obtain ⟨d, e1, h1, lo, e2, h2, hi, e3, h3, r, h4, h5⟩ := h
  exact ⟨_, _, by simp only [sliE, h1, h2, h3, h4, R.bind_ok, R.at_ok], h5⟩
theorem w_noP (h : QO none e) : Wp noP e QO := ⟨_, _, rfl, h⟩
theorem w_soP (h : Wp x e fun d e1 => IntC d fun k => QO (some k) e1) : Wp (soP x) e QO := by
  obtain ⟨_, e1, h1, k, rfl, h2⟩ := h
  exact ⟨_, _, by simp only [soP, h1, R.bind_ok], h2⟩
theorem w_addF (h : Wp x e fun d e1 => Wp y e1 fun d2 e2 => LstC d fun xs => LstC d2 fun ys => xs.length + ys.length ≤ sizeLine ∧ QL (xs ++ ys) e2) : Wp (addF x y) e QL := by
  obtain ⟨_, e1, h1, _, e2, h2, xs, rfl, ys, rfl, h3, h4⟩ := h
  exact ⟨_, _, by simp only [addF, h1, h2, R.bind_ok, if_pos h3], h4⟩
theorem w_bin2L {op : D → D → R D} (h : GetC i e fun _ => Wp x e fun d e1 => GetC i e1 fun d0 => Ok (op d0 d) fun r => QD r e1) : Wp (bin2L op i x) e QD := by
  obtain ⟨_, h0, d, e1, h1, d0, h2, r, h3, h4⟩ := h
  exact ⟨_, _, by simp only [bin2L, h0, h1, h2, h3, R.bind_ok, R.at_ok], h4⟩
theorem w_bin2R {op : D → D → R D} (h : Wp x e fun d e1 => GetC i e1 fun d0 => Ok (op d d0) fun r => QD r e1) : Wp (bin2R op x i) e QD := by
  obtain ⟨d, e1, h1, d0, h2, r, h3, h4⟩ := h
  exact ⟨_, _, by simp only [bin2R, h1, h2, h3, R.bind_ok, R.at_ok], h4⟩
theorem w_retL (h : GetL i e fun ds => Q (.rt (.lst ds)) e) : Wp (retL i) e Q := by
  obtain ⟨ds, h0, h1⟩ := h
  exact ⟨_, _, by simp only [retL, h0], h1⟩
theorem w_retF (h : Wp a e fun ds e1 => Q (.rt (.lst ds)) e1) : Wp (retF a) e Q := by
  obtain ⟨ds, e1, h0, h1⟩ := h
  exact ⟨_, _, by simp only [retF, h0, R.bind_ok], h1⟩
def IsRt (Q : Fl → Lc → Prop) (fl : Fl) (e : Lc) : Prop := (∃ d, fl = .rt d) ∧ Q fl e
theorem r_rt (h : Q (.rt d) e) : IsRt Q (.rt d) e := ⟨⟨d, rfl⟩, h⟩
theorem w_frz (h : Wp f e (IsRt Q)) : Wp (frzS f) e Q := by
  obtain ⟨_, e1, h1, ⟨d, rfl⟩, h3⟩ := h
  exact ⟨_, _, by simp only [frzS, h1], h3⟩
/-! targets -/
theorem g_nm (h : QG (e.set i (some d))) : Ok (nmG i d e) QG := ⟨_, rfl, h⟩
theorem g_tup {hh : List D → Lc → R Lc} (hn : ds.length = n) (h : Ok (hh ds e) QG) : Ok (tupG n hh (.tup ds) e) QG := by
  obtain ⟨e1, h1, h2⟩ := h
  exact ⟨e1, by simp only [tupG, hn, if_true, h1], h2⟩
theorem g_cons {hh : List D → Lc → R Lc} (h : Ok (gd d e) fun e1 => Ok (hh ds e1) QG) : Ok (consG gd hh (d :: ds) e) QG := by
  obtain ⟨e1, h1, e2, h2, h3⟩ := h
  exact ⟨e2, by simp only [consG, h1, h2, R.bind_ok], h3⟩
theorem g_nil (h : QG e) : Ok (nilG [] e) QG := ⟨_, rfl, h⟩
theorem g_isL (h : GetL i e fun _ => Ok (gd d e) QG) : Ok (isLG i gd d e) QG := by
  obtain ⟨_, h0, e1, h1, h2⟩ := h
  exact ⟨e1, by simp only [isLG, h0, h1], h2⟩
theorem g_sub (h : Wp x e fun k e1 => GetL i e1 fun ds => NatC k fun n => n < ds.length ∧ QG (e1.set i (some (.lst (ds.set n d))))) : Ok (subG i x d e) QG := by
  obtain ⟨_, e1, h1, ds, h2, n, rfl, h3, h4⟩ := h
  have : ixN ds.length (n : Int) = some n := by
    unfold ixN
    simp
    omega
  exact ⟨_, by simp only [subG, h1, h2, R.bind_ok, this], h4⟩
end
/-! functions -/
def OutW (nw : Bool) (Q : D → Prop) (fl : Fl) (e : Lc) : Prop := match fl with
  | .rt d => Q d
  | .nx => nw = false ∧ Q .non
  | _ => False
theorem t_rt {nw : Bool} {Q : D → Prop} {d : D} {e : Lc} (h : Q d) : OutW nw Q (.rt d) e := h
theorem w_runB {N : Nat} {nw : Bool} {fb : MS} {ds : List D} {Q : D → Prop} {e0 : Lc} (he : startL N ds = e0) (h : Wp fb e0 (OutW nw Q)) : Ok (runB N nw fb ds) Q := by
  subst he
  obtain ⟨fl, e, h1, h2⟩ := h
  rw [s_runB, h1]
  cases fl with
  | rt d => exact ⟨_, rfl, h2⟩
  | nx =>
    obtain ⟨rfl, h2⟩ := h2
    exact ⟨_, rfl, h2⟩
  | bk => exact h2.elim
  | ct => exact h2.elim
def OutX (nw : Bool) (Q : D → D → Prop) (fl : Fl) (e : Lc) : Prop := match fl with
  | .rt d => GetC 0 e fun d1 => Q d d1
  | .nx => nw = false ∧ GetC 0 e fun d1 => Q .non d1
  | _ => False
theorem x_rt {nw : Bool} {Q : D → D → Prop} {d : D} {e : Lc} (h : GetC 0 e fun d1 => Q d d1) : OutX nw Q (.rt d) e := h
theorem w_runI {N : Nat} {nw : Bool} {fb : MS} {d0 : D} {ds : List D} {Q : D → D → Prop} {e0 : Lc} (he : startL N (d0 :: ds) = e0) (h : Wp fb e0 (OutX nw Q)) : OkI (runI N nw fb d0 ds) Q := by
  subst he
  obtain ⟨fl, e, h1, h2⟩ := h
  unfold runI
  rw [h1]
  cases fl with
  | rt d =>
    obtain ⟨d1, h3, h4⟩ := h2
    exact ⟨_, _, by simp only [h3], h4⟩
  | nx =>
    obtain ⟨rfl, d1, h3, h4⟩ := h2
    exact ⟨_, _, by simp [h3], h4⟩
  | bk => exact h2.elim
  | ct => exact h2.elim
/-! loops -/
theorem w_forS {g : GD} {b : MS} (I : Nat → Lc → Prop) : ∀ (ds : List D) (k : Nat) (e : Lc), (∀ i d e, ds[i]? = some d → I (k + i) e → Ok (g d e) fun e1 => Wp b e1 fun fl e2 => fl = .nx ∧ I (k + i + 1) e2) → I k e → Wp (forS g b ds) e fun fl e2 => fl = .nx ∧ I (k + ds.length) e2
  | [], k, e, _, h => ⟨_, _, rfl, rfl, h⟩
  | d :: ds, k, e, hs, h => by
    obtain ⟨e1, h1, fl, e2, h2, rfl, h4⟩ := hs 0 d e rfl h
    obtain ⟨fl, e3, h5, rfl, h6⟩ := w_forS (g := g) (b := b) I ds (k + 1) e2 (fun i d e hi hI => by
      have e1 : k + 1 + i = k + (i + 1) := by omega
      rw [e1] at hI ⊢
      exact hs (i + 1) d e hi hI) h4
    refine ⟨_, e3, ?_, rfl, ?_⟩
    · unfold forS
      rw [h1]
      simp only [R.bind_ok]
      rw [h2]
      exact h5
    · have e1 : k + (d :: ds).length = k + 1 + ds.length := by simp [List.length_cons]; omega
      rw [e1]
      exact h6
theorem w_forM {F : MD (List D)} {g : GD} {b : MS} {e : Lc} {Q : Fl → Lc → Prop} (I : List D → Nat → Lc → Prop) (h : Wp F e fun ds e1 => I ds 0 e1 ∧ (∀ i d e, ds[i]? = some d → I ds i e → Ok (g d e) fun e1 => Wp b e1 fun fl e2 => fl = .nx ∧ I ds (i + 1) e2) ∧ ∀ e, I ds ds.length e → Q .nx e) : Wp (forM F g b) e Q := by
  obtain ⟨ds, e1, h0, h1, h2, h3⟩ := h
  obtain ⟨fl, e2, h4, rfl, h5⟩ := w_forS (g := g) (b := b) (I ds) ds 0 e1 (fun i d e h1 hI => by rw [Nat.zero_add] at hI ⊢; exact h2 i d e h1 hI) h1
  rw [Nat.zero_add] at h5
  exact ⟨_, e2, by rw [s_forM, h0, R.bind_ok]; exact h4, h3 e2 h5⟩
/-- a comprehension over one name, its element what it may be -/
theorem w_lcS {i : Nat} {el : MD D} {P : D → D → Prop} {e : Lc} : ∀ (ds : List D), e[i]? = some none → (∀ d ∈ ds, Wp el (e.set i (some d)) fun r e1 => e1 = e.set i (some d) ∧ P d r) → Wp (lcS [i] (nmG i) yesT el ds) e fun rs e1 => e1 = e ∧ rs.length = ds.length ∧ ∀ (j : Nat) (d r : D), ds[j]? = some d → rs[j]? = some r → P d r
  | [], _, _ => ⟨_, _, rfl, rfl, rfl, fun j d r h => by simp at h⟩
  | d :: ds, h0, h => by
    obtain ⟨r, e1, h1, rfl, h3⟩ := h d (List.mem_cons_self ..)
    have hw : wipeL (e.set i (some d)) [i] = e := by
      show (e.set i (some d)).set i none = e
      rw [List.set_set]
      apply List.ext_getElem?
      intro j
      by_cases hj : i = j
      · subst hj
        rw [List.getElem?_set_self (by rw [List.getElem?_eq_some_iff] at h0; exact h0.1), h0]
      · rw [List.getElem?_set_ne hj]
    obtain ⟨rs, e2, h4, rfl, h6, h7⟩ := w_lcS (el := el) (P := P) ds h0 fun d' hd => h d' (List.mem_cons_of_mem _ hd)
    refine ⟨r :: rs, e2, ?_, rfl, by simp only [List.length_cons, h6], ?_⟩
    · unfold lcS
      simp only [nmG, noX, R.bind_ok, yesT]
      rw [h1]
      simp only [noX, R.bind_ok]
      rw [hw, h4]
      rfl
    · intro j d' r' hd hr
      cases j with
      | zero =>
        simp only [List.getElem?_cons_zero, Option.some.injEq] at hd hr
        rw [← hd, ← hr]
        exact h3
      | succ j =>
        simp only [List.getElem?_cons_succ] at hd hr
        exact h7 j d' r' hd hr
theorem w_lcM {i : Nat} {el : MD D} {F : MD (List D)} {e : Lc} (P : List D → D → D → Prop) {Q : List D → Lc → Prop} (hi : i < e.length) (h : Wp F e fun ds e1 => e1 = e ∧ ds.length ≤ sizeLine ∧ (∀ d ∈ ds, Wp el (e.set i (some d)) fun r e2 => e2 = e.set i (some d) ∧ P ds d r) ∧
    ∀ rs : List D, rs.length = ds.length → (∀ (j : Nat) (d r : D), ds[j]? = some d → rs[j]? = some r → P ds d r) → Q rs e) : Wp (lcM [i] F (nmG i) yesT el) e Q := by
  obtain ⟨ds, e1, hF, rfl, hz, h, hq⟩ := h
  have e0 : ∀ d, (e1.set i none).set i (some d) = e1.set i (some d) := fun d => List.set_set ..
  obtain ⟨rs, e2, h1, rfl, h3, h4⟩ := w_lcS (el := el) (P := P ds) (e := e1.set i none) (i := i) ds (List.getElem?_set_self hi) fun d hd => by rw [e0]; exact h d hd
  refine ⟨rs, e1, ?_, hq rs h3 h4⟩
  unfold lcM
  rw [hF]
  simp only [R.bind_ok]
  rw [if_pos hz, wipe1, h1]
  simp only [R.bind_ok, keep1]
  rw [set_back hi]
/-! ### the operations -/
section
variable {i j : Int} {Q : D → Prop} {QB : Bool → Prop} {ds es : List D} {s z : Str} {b : Bool}
theorem o_add (h : Q (.int (i + j))) : Ok (addD (.int i) (.int j)) Q := ⟨_, rfl, h⟩
theorem o_addL (hz : ds.length + es.length ≤ sizeLine) (h : Q (.lst (ds ++ es))) : Ok (addD (.lst ds) (.lst es)) Q := ⟨_, if_pos hz, h⟩
theorem o_addT (hz : ds.length + es.length ≤ sizeLine) (h : Q (.tup (ds ++ es))) : Ok (addD (.tup ds) (.tup es)) Q := ⟨_, if_pos hz, h⟩
theorem o_addS (hz : s.length + z.length ≤ sizeLine) (h : Q (.str (s ++ z))) : Ok (addD (.str s) (.str z)) Q := ⟨_, if_pos hz, h⟩
theorem o_sub (h : Q (.int (i - j))) : Ok (subD (.int i) (.int j)) Q := ⟨_, rfl, h⟩
theorem o_mod (hz : j ≠ 0) (h : Q (.int (i.fmod j))) : Ok (modD (.int i) (.int j)) Q := ⟨_, if_pos hz, h⟩
theorem o_mul (hz : i.natAbs.log2 + j.natAbs.log2 < 1000000) (h : Q (.int (i * j))) : Ok (mulD (.int i) (.int j)) Q := ⟨_, by rw [mulD_int, if_pos hz], h⟩
theorem o_div (hz : (0 < j ∧ j.natAbs.log2 < 9000) ∨ (j ≠ 0 ∧ j.natAbs < 1073741824)) (h : Q (.int (i.fdiv j))) : Ok (fdivD (.int i) (.int j)) Q := ⟨_, by rw [fdivD_int, if_pos hz], h⟩
theorem o_pow (hz : 0 ≤ j ∧ j ≤ 1000000 ∧ i.natAbs < 2 ^ 64) (h : Q (.int (i ^ j.toNat))) : Ok (powD (.int i) (.int j)) Q := ⟨_, if_pos hz, h⟩
theorem o_modE (hj : 0 < j) (h : Q (.int (i % j))) : Ok (modD (.int i) (.int j)) Q := o_mod (by omega) (by rw [Int.fmod_eq_emod_of_nonneg _ (Int.le_of_lt hj)]; exact h)
theorem log2_lt' {n k : Nat} (h : n < 2 ^ k) (hk : 1 ≤ k) : n.log2 < k := by
  by_cases h0 : n = 0
  · subst h0
    simp
    omega
  · exact (Nat.log2_lt h0).mpr h
theorem log60 {i : Int} (hi : -1000000000000000000000000000000000000000000000000000000000000 ≤ i ∧ i ≤ 1000000000000000000000000000000000000000000000000000000000000) : i.natAbs.log2 < 250 := log2_lt' (Nat.lt_of_le_of_lt (show i.natAbs ≤ 1000000000000000000000000000000000000000000000000000000000000 by omega) (by decide)) (by decide)
theorem o_mulS (hi : -1000000000000000000000000000000000000000000000000000000000000 ≤ i ∧ i ≤ 1000000000000000000000000000000000000000000000000000000000000) (hj : -1000000000000000000000000000000000000000000000000000000000000 ≤ j ∧ j ≤ 1000000000000000000000000000000000000000000000000000000000000) (h : Q (.int (i * j))) : Ok (mulD (.int i) (.int j)) Q := o_mul (by
  have := log60 hi
  have := log60 hj
  omega) h
theorem o_divE (hj : 0 < j) (h2 : j < 1000000000000) (h : Q (.int (i / j))) : Ok (fdivD (.int i) (.int j)) Q := o_div (.inl ⟨hj, by
  have := log2_lt' (n := j.natAbs) (k := 64) (by omega) (by decide)
  omega⟩) (by rw [Int.fdiv_eq_ediv_of_nonneg _ (Int.le_of_lt hj)]; exact h)
theorem o_powP (hj : 0 ≤ j) (h2 : j ≤ 1000000) (h3 : i.natAbs < 2 ^ 64) (h : Q (.int (i ^ j.toNat))) : Ok (powD (.int i) (.int j)) Q := o_pow ⟨hj, h2, h3⟩ h
theorem o_eq' (h : Q (.bl (i == j))) : Ok (eqD (.int i) (.int j)) Q := ⟨_, rfl, h⟩
theorem o_ne' (h : Q (.bl (!(i == j)))) : Ok (neD (.int i) (.int j)) Q := ⟨_, rfl, h⟩
theorem o_gt (h : Q (.bl (decide (j < i)))) : Ok (gtD (.int i) (.int j)) Q := ⟨_, rfl, h⟩
theorem o_lt (h : Q (.bl (decide (i < j)))) : Ok (ltD (.int i) (.int j)) Q := ⟨_, rfl, h⟩
theorem o_ge (h : Q (.bl (decide (j ≤ i)))) : Ok (geD (.int i) (.int j)) Q := ⟨_, rfl, h⟩
theorem o_le (h : Q (.bl (decide (i ≤ j)))) : Ok (leD (.int i) (.int j)) Q := ⟨_, rfl, h⟩
theorem o_tru (h : QB b) : Ok (truR (.bl b)) QB := ⟨_, rfl, h⟩
theorem o_lenL (h : Q (.int ds.length)) : Ok (lenD [.lst ds]) Q := ⟨_, rfl, h⟩
theorem o_lenT (h : Q (.int ds.length)) : Ok (lenD [.tup ds]) Q := ⟨_, rfl, h⟩
theorem o_intB (h : Q (.int (if b then 1 else 0))) : Ok (intD [.bl b]) Q := by
  cases b
  · exact ⟨_, rfl, h⟩
  · exact ⟨_, rfl, h⟩
theorem ixN_nat {n k : Nat} (h : k < n) : ixN n (k : Int) = some k := by
  unfold ixN
  simp
  omega
theorem o_idxT {k : Nat} {d : D} (hk : ds[k]? = some d) (h : Q d) : Ok (idxD (.tup ds) (.int k)) Q := ⟨_, idx_tup hk, h⟩
theorem o_idxL {k : Nat} {d : D} (hk : ds[k]? = some d) (h : Q d) : Ok (idxD (.lst ds) (.int k)) Q := ⟨_, by
  have hl := (List.getElem?_eq_some_iff.mp hk).1
  simp [idxD, atI, ixN_nat hl, hk], h⟩
theorem o_tupleL (h : Q (.tup ds)) : Ok (tupleD [.lst ds]) Q := ⟨_, rfl, h⟩
theorem o_sliL {lo hi : Option Int} (h : Q (.lst (cutG ds lo hi))) : Ok (sliR lo hi (.lst ds)) Q := ⟨_, rfl, h⟩
theorem o_sliT {lo hi : Option Int} (h : Q (.tup (cutG ds lo hi))) : Ok (sliR lo hi (.tup ds)) Q := ⟨_, rfl, h⟩
end
theorem o_idxc {d k r : D} {Q : D → Prop} (e : idxD d k = .ok r) (h : Q r) : Ok (idxD d k) Q := ⟨r, e, h⟩
theorem o_isi {f : D → Option Bool} {d r : D} {Q : D → Prop} (e : isiD f d = .ok r) (h : Q r) : Ok (isiD f d) Q := ⟨r, e, h⟩
theorem g_len {ds : List D} {n : Nat} {hh : List D → Lc → R Lc} {e : Lc} {QG : Lc → Prop} (hn : ds.length = n) (h : Ok (hh ds e) QG) : Ok (tupG n hh (.tup ds) e) QG := g_tup hn h
theorem w_chn {F G : D → D → R D} {f g h : MD D} {e : Lc} {Q : D → Lc → Prop} (hh : Wp f e fun a e1 => Wp g e1 fun b e2 => Ok (F a b) fun r => BlC r fun t => IfC t (Wp h e2 fun c e3 => Ok (G b c) fun r2 => Q r2 e3) (Q (.bl false) e2)) : Wp (chn F G f g h) e Q := by
  obtain ⟨a, e1, h1, b, e2, h2, _, h3, t, rfl, h4⟩ := hh
  cases t with
  | true =>
    obtain ⟨c, e3, h5, r, h6, h7⟩ := h4.1 rfl
    exact ⟨r, e3, by simp only [chn, h1, h2, h3, h5, h6, R.bind_ok, R.at_ok], h7⟩
  | false => exact ⟨_, _, by simp only [chn, h1, h2, h3, R.bind_ok], h4.2 rfl⟩
end Dn

namespace Dn
open PySem PySem.Spec PyProof.Rows L2
/-! ### repr of data, where no repr is under way -/
mutual
def D.pyr : D → Option PyData
  | .non => some .none
  | .bl b => some (.bool b)
  | .int i => some (.int i)
  | .str x => some (.str x)
  | .tup ds => match pyrs ds with
    | some ps => some (.tuple ps)
    | none => none
  | .lst ds => match pyrs ds with
    | some ps => some (.list ps)
    | none => none
  | .dct ks _ => match ks with
    | [] => some (.dict [])
    | _ => none
  | .fn _ => none
  | .scr _ => none
def pyrs : List D → Option (List PyData)
  | [] => some []
  | d :: ds => match D.pyr d, pyrs ds with
    | some p, some ps => some (p :: ps)
    | _, _ => none
end
/-- what a value is in the heap h, and its text -/
def Sh (prog : Program) (w : World) (h : Heap) (u : Value) (p : PyData) : Prop := (∃ as, Reads h u p as) ∧ ∃ bs, ReadAtMost h p.depth bs ∧ ReprK prog w bs h p.depth u p.shown
def Shs (prog : Program) (w : World) (h : Heap) (us : List Value) (ps : List PyData) : Prop := (∃ as, ReadsAll h us ps as) ∧ ∃ bs, ReadAtMost h (PyData.depthAll ps) bs ∧ ReprAllK prog w bs h (PyData.depthAll ps) us (PyData.shownAll ps)
section
variable {prog : Program} {w : World} {h : Heap}
theorem Sh.of {u : Value} {p : PyData} (hr : Reads h u p []) (hk : ReprIs prog w u p.shown) : Sh prog w h u p := ⟨⟨[], hr⟩, [], (fun _ z => by cases z), ReprK.of_is hk _ _ _⟩
theorem Shs.nil : Shs prog w h [] [] := ⟨⟨_, .nil⟩, [], (fun _ z => by cases z), .nil⟩
theorem ReprAllK.lift {bs cs : List Addr} {i j : Nat} (hs : ∀ b ∈ bs, b ∈ cs) (hi : i ≤ j) {us : List Value} {ts : List Str} (k : ReprAllK prog w bs h i us ts) : ReprAllK prog w cs h j us ts := k.more_le hs hi
theorem Shs.cons {u : Value} {p : PyData} {us : List Value} {ps : List PyData} (h1 : Sh prog w h u p) (h2 : Shs prog w h us ps) : Shs prog w h (u :: us) (p :: ps) := by
  obtain ⟨⟨as, r1⟩, b1, m1, k1⟩ := h1
  obtain ⟨⟨as', r2⟩, b2, m2, k2⟩ := h2
  have e1 : p.depth ≤ PyData.depthAll (p :: ps) := by unfold PyData.depthAll; omega
  have e2 : PyData.depthAll ps ≤ PyData.depthAll (p :: ps) := by
    conv => rhs; unfold PyData.depthAll
    omega
  refine ⟨⟨_, .cons r1 r2⟩, b1 ++ b2, (m1.mono e1).append (m2.mono e2), ?_⟩
  exact .cons ((k1.more fun b z => List.mem_append_left _ z).level_le e1) (ReprAllK.lift (fun b z => List.mem_append_right _ z) e2 k2)
end
section
variable {X : Cx} {pins : List (Addr × Obj)} {σ : L2.St} {H : Hp} {s : Shared} {M : Addr → Prop} {fn : Nat → Option Addr} {cl : Nat → Value → Prop}
/-- an empty dict's object -/
theorem dict_none {a : Addr} (I : Inv X pins σ H s) (h : H a = some (.dK [])) : (a == sysModules) = false ∧ ∃ o n, s.heap.get? a = some o ∧ o.cls = .type "dict" ∧ o.data = .dict #[] n := by
  obtain ⟨_, h1, vs, rel, o, es, ep, h2, h3, h4, _, h5, _⟩ := dk_of I.hok h
  cases rel
  cases h6 : es.toList with
  | nil =>
    have : es = #[] := by
      cases es
      cases h6
      rfl
    subst this
    exact ⟨h1, o, ep, h2, h3.1, h4⟩
  | cons x r =>
    rw [h6] at h5
    cases h5
theorem shown_list {xs : List PyData} {t : Str} (h : t ∈ PyData.shownAll xs) : t.length ≤ (PyData.list xs).shown.length := by
  rw [PyData.shown]
  exact listText_mem_le h
theorem shown_tup {xs : List PyData} {t : Str} (h : t ∈ PyData.shownAll xs) : t.length ≤ (PyData.tuple xs).shown.length := by
  rw [PyData.shown]
  exact tupleText_mem_le h
mutual
theorem sh_of (I : Inv X pins σ H s) : ∀ (d : D) (v : V) (u : Value) (p : PyData), IsD ⟨X.K, fn, cl⟩ H M d v → RelV v u → D.pyr d = some p → p.showable = true → p.shown.length ≤ sizeLine → Sh X.prog X.w s.heap u p
  | .non, v, u, p, i, r, e, hs, hz => by
    cases e
    cases i
    cases r
    exact .of .none (by simpa only [PyData.shown] using ReprIs.none)
  | .bl b, v, u, p, i, r, e, hs, hz => by
    cases e
    cases i
    cases r
    exact .of (.bool b) (by simpa only [PyData.shown] using ReprIs.bool b)
  | .int j, v, u, p, i, r, e, hs, hz => by
    cases e
    cases i
    obtain ⟨t, rfl⟩ := r
    exact .of (.int j t) (by simpa only [PyData.shown] using ReprIs.int t (by simpa [PyData.showable] using hs))
  | .str x, v, u, p, i, r, e, hs, hz => by
    cases e
    cases i
    obtain ⟨t, rfl⟩ := r
    exact .of (.str x t) (by simpa only [PyData.shown] using ReprIs.str x t (by simpa only [PyData.shown] using hz))
  | .tup ds, v, u, p, ⟨a, vs, e1, h1, h2⟩, r, e, hs, hz => by
    unfold D.pyr at e
    split at e
    · rename_i ps e2
      cases e
      subst e1
      cases r
      obtain ⟨its, rv, ⟨o, ho, hc, n, hd⟩, _⟩ := I.tuple h1
      obtain ⟨⟨as, ra⟩, bs, hb, hk⟩ := shs_of I ds vs its ps h2 rv e2 (by simpa [PyData.showable] using hs) fun t ht => Nat.le_trans (shown_tup ht) hz
      have rd : Reads s.heap (.ref a) (.tuple ps) _ := .tuple ho hc hd ra
      refine ⟨⟨_, rd⟩, a :: bs, ReadAtMost.cons rd (by rw [PyData.depth]; omega) hb, ?_⟩
      rw [PyData.depth, PyData.shown]
      exact ReprK.tuple ho hc hd (not_mem_of_deeper rd (by rw [PyData.depth]; omega) hb) hk
    · cases e
  | .lst ds, v, u, p, ⟨a, vs, e1, h1, _, h2⟩, r, e, hs, hz => by
    unfold D.pyr at e
    split at e
    · rename_i ps e2
      cases e
      subst e1
      cases r
      obtain ⟨its, rv, ⟨o, n, ho, hc, _, hd⟩, _⟩ := I.list (.inl (.inl h1))
      obtain ⟨⟨as, ra⟩, bs, hb, hk⟩ := shs_of I ds vs its ps h2 rv e2 (by simpa [PyData.showable] using hs) fun t ht => Nat.le_trans (shown_list ht) hz
      have rd : Reads s.heap (.ref a) (.list ps) _ := .list ho hc hd ra
      refine ⟨⟨_, rd⟩, a :: bs, ReadAtMost.cons rd (by rw [PyData.depth]; omega) hb, ?_⟩
      rw [PyData.depth, PyData.shown]
      match its, hd, ra, hk with
      | [], hd, ra, hk =>
        cases ra
        rw [PyData.shownAll, listText_nil]
        exact (ReprK.listEmpty (as := a :: bs) ho hc hd)
      | x :: l, hd, ra, hk => exact ReprK.list ho hc hd (not_mem_of_deeper rd (by rw [PyData.depth]; omega) hb) (by simpa using hk.length_eq) fun i y z => hk.item i y (by simpa using z)
    · cases e
  | .dct ks vs, v, u, p, ⟨a, kvs, e1, h1, _, h2, _⟩, r, e, hs, hz => by
    match ks, e, h2 with
    | [], e, h2 =>
      cases e
      subst e1
      cases r
      have hk : kvs = [] := List.map_eq_nil_iff.mp h2
      subst hk
      obtain ⟨h3, o, n, ho, hc, hd⟩ := dict_none I h1
      have rd : Reads s.heap (.ref a) (.dict []) _ := .dict ho hc hd .nil .nil
      refine ⟨⟨_, rd⟩, [a], ReadAtMost.cons rd (n := 0) (Nat.zero_le _) (fun _ z => by cases z), ?_⟩
      rw [PyData.depth, PyData.shown]
      exact ReprK.dict (as := []) ho hc hd h3 (by simp) .nil
  | .fn _, v, u, p, i, r, e, hs, hz => by cases e
  | .scr _, v, u, p, i, r, e, hs, hz => by cases e
theorem shs_of (I : Inv X pins σ H s) : ∀ (ds : List D) (vs : List V) (us : List Value) (ps : List PyData), IsDs ⟨X.K, fn, cl⟩ H M ds vs → Vals vs us → pyrs ds = some ps → PyData.showableAll ps = true → (∀ t ∈ PyData.shownAll ps, t.length ≤ sizeLine) → Shs X.prog X.w s.heap us ps
  | [], vs, us, ps, i, r, e, hs, hz => by
    cases e
    rw [show vs = [] from i] at r
    cases r
    exact .nil
  | d :: ds, vs, us, ps, ⟨v, vr, e0, i1, i2⟩, r, e, hs, hz => by
    unfold pyrs at e
    split at e
    · rename_i p ps' e1 e2
      cases e
      subst e0
      cases r with
      | cons r1 r2 =>
        rw [PyData.showableAll, Bool.and_eq_true] at hs
        rw [PyData.shownAll] at hz
        exact .cons (sh_of I d v _ p i1 r1 e1 hs.1 (hz _ (List.mem_cons_self ..))) (shs_of I ds vr _ ps' i2 r2 e2 hs.2 fun t ht => hz t (List.mem_cons_of_mem _ ht))
    · cases e
end
end
/-- the text of a datum -/
def reprD : List D → R D
  | [d] => match D.pyr d with
    | some p => if p.showable = true ∧ p.shown.length ≤ sizeLine ∧ p.depth ≤ 60 then .ok (.str p.shown) else .bad
    | none => .bad
  | _ => .bad
theorem reprD_nx (a : List D) (y : Ex) (l : Lc) : reprD a ≠ .exc y l := by
  unfold reprD
  split <;> (repeat' split) <;> simp
def rReprX (k : Kx) : List V → Hp → VK → Prop := fun xs H Q => ∃ (v : V) (d : D) (p : PyData) (M : Addr → Prop), xs = [v] ∧ IsT k H M d v ∧ D.pyr d = some p ∧ p.showable = true ∧ p.shown.length ≤ sizeLine ∧ p.depth ≤ 60 ∧ Q (.str p.shown) H
theorem cad_repr {C : Ct} : CaD C (rReprX C.k) reprD := by
  intro σ e H vs ds Q s i q
  unfold reprD at q
  split at q
  · rename_i d
    split at q
    · rename_i p e1
      split at q
      · rename_i hz
        obtain ⟨v, rfl, h1⟩ := i.one
        exact ⟨v, d, p, MO C σ, rfl, h1, e1, hz.1, hz.2.1, hz.2.2, q.val rfl⟩
      · exact q.elim
    · exact q.elim
  · exact q.elim
section
variable {X : Cx} {lv : Nat} {k : Kx}
theorem repr_out {pins : List (Addr × Obj)} {σ : L2.St} {H : Hp} {s : Shared} {Q : VK} {t : Str} (I : Inv X pins σ H s) (q : Q (.str t) H) : ∀ (h' : Heap) (u : Tok) (tk : Nat), (∀ b o, s.heap.get? b = some o → h'.get? b = some o) → ∃ (x : Str) (tt : Tok), Value.str t u = .str x tt ∧ EP X pins σ Q (.str t u) { s with heap := h', toks := tk } := fun h' u tk hk => ⟨t, u, rfl, .str t, H, I.kept hk, ⟨u, rfl⟩, q⟩
theorem call_reprX (hk : k.K = X.K) (hr : RoomG lv X.A) : CallR X (.builtin "repr") (rReprX k) := by
  intro pins s σ H xs us Q I r ⟨v, d, p, M, e0, i, e, hs, hz, hd, q⟩
  subst e0
  obtain ⟨K, fn, cl⟩ := k
  have hK : K = X.K := hk
  subst hK
  obtain ⟨u, rfl⟩ : ∃ u, us = [u] := by
    cases r with
    | cons r1 r2 =>
      cases r2
      exact ⟨_, rfl⟩
  have r1 : RelV v u := by
    cases r with
    | cons r1 r2 => exact r1
  have hu := hr.units
  have hu1 : X.A.units + 1 < cLine := by omega
  have hg : X.A.in1.guards = some [] := hr.none
  match d, i, e with
  | .non, i, e =>
    cases e
    cases i
    cases r1
    exact PySem.P.repr_of_none ⟨.str _, H, I.tok _, ⟨_, rfl⟩, by simpa only [PyData.shown] using q⟩
  | .bl b, i, e =>
    cases e
    cases i
    cases r1
    exact PySem.P.repr_of_bool ⟨.str _, H, I.tok _, ⟨_, rfl⟩, by simpa only [PyData.shown] using q⟩
  | .int j, i, e =>
    cases e
    cases i
    obtain ⟨t, rfl⟩ := r1
    exact PySem.P.repr_of_int (by simpa [PyData.showable] using hs) ⟨.str _, H, I.tok _, ⟨_, rfl⟩, by simpa only [PyData.shown] using q⟩
  | .str x, i, e =>
    cases e
    cases i
    obtain ⟨t, rfl⟩ := r1
    exact PySem.P.repr_of_str ⟨.str _, H, I.tok _, ⟨_, rfl⟩, by simpa only [PyData.shown] using q⟩ (by simpa only [PyData.shown] using hz)
  | .tup ds, ⟨a, vs, e1, h1, h2⟩, e =>
    unfold D.pyr at e
    split at e
    · rename_i ps e2
      cases e
      subst e1
      cases r1
      obtain ⟨its, rv, ⟨o, ho, hc, n, hdt⟩, _⟩ := I.tuple h1
      obtain ⟨⟨as, ra⟩, bs, hb, hkk⟩ := shs_of I ds vs its ps h2 rv e2 (by simpa [PyData.showable] using hs) fun t ht => Nat.le_trans (shown_tup ht) hz
      have rd : Reads s.heap (.ref a) (.tuple ps) _ := .tuple ho hc hdt ra
      rw [PyData.depth] at hd
      rw [PyData.shown] at q hz
      exact call_repr_slot hu1 ⟨o, ho, hc⟩ F.slot_tuple_repr (call_tuple_reprK ho hc hdt (not_mem_of_deeper rd (by rw [PyData.depth]; omega) hb) hkk hg (fun b _ => Clear.nil b) (by show X.A.units + 1 + _ < cLine; omega) (fun _ _ z => z) (repr_out I q) hz)
    · cases e
  | .lst ds, ⟨a, vs, e1, h1, h2⟩, e =>
    unfold D.pyr at e
    split at e
    · rename_i ps e2
      cases e
      subst e1
      cases r1
      obtain ⟨its, rv, ⟨o, n, ho, hc, _, hdt⟩, _⟩ := I.list (.inl (.inl h1))
      obtain ⟨⟨as, ra⟩, bs, hb, hkk⟩ := shs_of I ds vs its ps h2 rv e2 (by simpa [PyData.showable] using hs) fun t ht => Nat.le_trans (shown_list ht) hz
      have rd : Reads s.heap (.ref a) (.list ps) _ := .list ho hc hdt ra
      have hna := not_mem_of_deeper rd (by rw [PyData.depth]; omega) hb
      rw [PyData.depth] at hd
      rw [PyData.shown] at q hz
      refine call_repr_slot hu1 ⟨o, ho, hc⟩ F.slot_list_repr.toG ?_
      match its, hdt, ra, hkk with
      | [], hdt, ra, hkk =>
        cases ra
        rw [PyData.shownAll, listText_nil] at q
        exact call_list_repr_empty ⟨o, ho, hc⟩ ho hdt (repr_out I q s.heap _ _ fun _ _ z => z)
      | x :: l, hdt, ra, hkk => exact call_list_reprK ho hc hdt hna (by simpa using hkk.length_eq) (fun i y z => hkk.item i y (by simpa using z)) hg (fun b _ => Clear.nil b) (by show X.A.units + 1 + _ < cLine; omega) (fun _ _ z => z) (repr_out I q) hz
    · cases e
  | .dct ks ds, ⟨a, kvs, e1, h1, h2, _⟩, e =>
    match ks, e, h2 with
    | [], e, h2 =>
      cases e
      subst e1
      cases r1
      have hkv : kvs = [] := List.map_eq_nil_iff.mp h2
      subst hkv
      obtain ⟨h3, o, n, ho, hc, hdt⟩ := dict_none I h1
      rw [PyData.depth] at hd
      rw [PyData.shown] at q hz
      exact call_repr_slot hu1 ⟨o, ho, hc⟩ F.slot_dict_repr (call_dict_reprK (as := []) (d := 0) ho hc hdt h3 (by simp) .nil hg (fun b _ => Clear.nil b) (by show X.A.units + 1 + _ < cLine; omega) (fun _ _ z => z) (repr_out I q) hz)
  | .fn _, i, e => cases e
  | .scr _, i, e => cases e
end
end Dn

namespace Dn
open PySem PySem.Spec PyProof.Rows L2
section
variable {X : Cx} {C : Ct} {f : MD D} {a : Expr} {pos : Pos}
/-- x.extend(e) -/
def extS (i : Nat) (f : MD D) : MS := fun e => (f e).bind fun p => match p.1, p.2[i]? with
  | .lst ys, some (some (.lst ds)) => if ds.length + ys.length ≤ sizeLine then .ok (.nx, p.2.set i (some (.lst (ds ++ ys)))) else .bad
  | _, _ => .bad
theorem js_ext {i : Nat} {x : Str} {px ap cp : Pos} (ho : i ∈ C.own) (hN : X.N[i]? = some x) (hv : Vis X.env.scope x) (he : PE X a (tE C f)) (hd : (x == ("__debug__" : Str)) = false := by decide) (hcd : (x == ("__classdict__" : Str)) = false := by decide)
    (hbase : attributeBase (.Name x px) "extend" X.env (eval (.Name x px) X.env) = eval (.Name x px) X.env := by rfl)
    (hfew : ((backTo cp (starEach [a] X.env)).all (fun x => !x.1) && (backToKw cp (keywordEach [] X.env)).all (fun x => x.1.isSome)
      && decide ([a].length + ([] : List Keyword).length + (if ([] : List Keyword).isEmpty then 0 else 1) < 30)) = true := by rfl)
    (hline : (ap.endLine == cp.line) = true := by rfl) (hs : starEach [a] X.env = (false, eval a X.env) :: starEach [] X.env := by rfl) (hplain : (backTo cp (starEach [] X.env)).any (·.1) = false := by rfl)
    (hsw : swapsWith (.Call (.Attribute (.Name x px) "extend" ap) [a] [] cp) none pos.line X.env = pure false := by rfl) :
    PS X (.Expr (.Call (.Attribute (.Name x px) "extend" ap) [a] [] cp) pos) (tS C (isL i (extS i f))) := by
  refine PS.imp (ps_expr (pe_bm PySem.F.plainAttrs_list PySem.F.slot_list_extend PySem.F.type_list_extend mt_extend (pe_var hN hv hd hcd) (pa_cons he pa_nil hs) hbase hfew hline hs hplain) hsw) fun D σ H ⟨e, s, o⟩ => ?_
  unfold isL at o
  split at o
  · rename_i ds0 h0
    obtain ⟨b, vs, h1, h2, h3⟩ := own_lst s ho h0
    refine ⟨.ref b, h1, .inl ⟨rfl, vs, .inl (.inl h2)⟩, e, s, (Out.bind o).imp (fun p hp => ?_) fun _ _ z => z.xo⟩
    intro v H1 x1 s1 i1
    split at hp
    · rename_i ys ds e1 hds
      split at hp
      · rename_i hz
        obtain ⟨b', ws, h4, h5, h6⟩ := own_lst s1 ho hds
        have eb : b' = b := by
          rw [h1] at h4
          cases h4
          rfl
        subst eb
        rw [e1] at i1
        obtain ⟨q, zs, rfl, h7, h8, h9⟩ := i1
        obtain ⟨s2, x2⟩ := s1.wlst ho h1 h5 (h6.app h9)
        exact ⟨b', q, ws, zs, rfl, rfl, h5, h7, by rw [h6.length, h9.length]; exact hz, hp σ _ (Stp.of (x1.trans x2)) s2⟩
      · exact hp.elim
    · exact hp.elim
  · exact o.elim
variable {b : Expr} {p p2 q2 px py pt : Pos} {ff gg : MD (List D)} {i j : Nat} {x y : Str} {kt k2 : Nat} {pt2 : Pos}
/-- both names one's own, their values new lists -/
def parOO (i j : Nat) (ff gg : MD (List D)) : MS := fun e => (ff e).bind fun p => (noX (gg p.2)).bind fun q => .ok (.nx, (q.2.set i (some (.lst p.1))).set j (some (.lst q.1)))
theorem js_parOO (ho : i ∈ C.own) (hf : Free C i) (ho2 : j ∈ C.own) (hf2 : Free C j) (hc : X.calm = true) (hN : X.N.Nodup) (hi : X.N[i]? = some x) (hj : X.N[j]? = some y) (hij : i ≠ j)
    (hx : X.env.scope.names.lookup x = some .local) (hy : X.env.scope.names.lookup y = some .local) (ha : PE X a (tF C ff)) (hb : ∀ M', PE X b (tF (C.b M') gg))
    (hw : swappedStores [.Tuple [.Name x px, .Name y py] kt pt] (.Tuple [a, b] k2 pt2) X.env = pure (some [x, y]))
    (h1 : starEach [a, b] X.env = (false, eval a X.env) :: starEach [b] X.env := by rfl) (h2 : starEach [b] X.env = (false, eval b X.env) :: starEach [] X.env := by rfl)
    (hs : swapsWithSole [.Tuple [.Name x px, .Name y py] kt pt] (.Tuple [a, b] k2 pt2) pos.line X.env = pure false := by rfl) :
    PS X (.Assign [.Tuple [.Name x px, .Name y py] kt pt] (.Tuple [a, b] k2 pt2) pos) (tS C (parOO i j ff gg)) := by
  refine PS.imp (ps_par hc hN hi hj hij hx hy (pa_cons ha (pa_cons (PE.exM hb) pa_nil h2) h1) hw hs) fun D σ H ⟨e, s, o⟩ => ⟨e, s, (Out.bind o).imp (fun p hp => ?_) fun _ _ z => z.xo⟩
  intro vs H1 q1 x1 s1 i1 hq1
  have hqp : C.par ≠ some q1 := fun z => by
    obtain ⟨u2, h2⟩ := s1.pm q1 z
    rw [hq1] at h2
    cases h2
  have s2 := s1.into (o := .lst vs) hq1
  refine ⟨fun a => C.M a ∨ a = q1, p.2, s2, ?_⟩
  refine (noX_bind hp).imp (fun q hq => ?_) fun _ _ z => z
  intro ws H2 q2 x2 s3 i3 hq2
  have now : ¬ OW (C.b fun a => C.M a ∨ a = q1) σ q1 := fun ⟨j, hj, z⟩ => by
    rcases s2.nm j q1 hj z with y | y
    · exact y (.inr rfl)
    · exact hqp y
  have h12 : H2 q1 = some (.lst vs) := x2 q1 _ upd_same (.inl now)
  have nq : MO (C.b fun a => C.M a ∨ a = q1) σ q1 := .inl (.inr rfl)
  have i12 : IsDs C.k H2 (MO (C.b fun a => C.M a ∨ a = q1) σ) p.1 vs := IsDs.step x2.mo (fun a z => .inl z) _ _ (IsDs.step (Ext.upd hq1) (fun a z => by
    rcases z with (z | z) | z
    · exact .inl (.inl z)
    · exact .inr (by rw [z]; exact hq1)
    · exact .inl (.inr z)) _ _ i1)
  have mq2 : ∀ a, MO C σ a → MO (C.b fun a => C.M a ∨ a = q1) σ a := fun a z => by
    rcases z with z | z
    · exact .inl (.inl z)
    · exact .inr z
  obtain ⟨s9, x9⟩ := SR.out (vs := []) (fun _ z => by cases z) s1 hq1 s3 h12 fun a u z n => x2 a u (by rw [upd_ne (ne_of_none z hq1)]; exact z) n
  have nr : OwnD C.k (upd (Dn.era H2 q1) q1 (.lst vs)) (fun a => MO C σ a ∨ a = q1) (.lst p.1) q1 := OwnD.new (C := C) (σ := σ) (e := q.2) s9 era_same (IsDs.era h12 (fun z => z) nq mq2 _ _ i12)
  obtain ⟨s10, x10⟩ := s9.setO ho hf era_same nr
  rw [era_upd h12] at s10 x10
  have i4 : IsDs C.k H2 (MO C (σ.set i (some (.ref q1)))) q.1 ws := i3.mono fun a z => by
    rcases z with z | ⟨k, hk, z⟩
    · exact .inl (.inl z)
    · by_cases hki : k = i
      · subst hki
        rw [List.getElem?_set] at z
        split at z
        · split at z
          · cases z
            exact nq
          · cases z
        · exact absurd rfl ‹_›
      · rw [List.getElem?_set_ne (fun h => hki h.symm)] at z
        exact .inr ⟨k, hk, z⟩
  obtain ⟨s11, x11⟩ := s10.setO ho2 hf2 hq2 (OwnD.new s10 hq2 i4)
  exact ⟨.ref q1, .ref q2, rfl, hq _ _ (((Stp.of (x1.trans x9)).trans x10).trans x11) s11⟩
end
/-! ### len(set(t)), t a tuple of ints -/
def ddL : List Int → List Int
  | [] => []
  | x :: r => if x ∈ r then ddL r else x :: ddL r
theorem ddL_mem : ∀ (ns : List Int) (k : Int), k ∈ ddL ns ↔ k ∈ ns
  | [], k => Iff.rfl
  | x :: r, k => by
    unfold ddL
    split
    · rename_i h
      rw [ddL_mem r k, List.mem_cons]
      exact ⟨.inr, fun z => z.elim (fun e => by rw [e]; exact h) id⟩
    · rw [List.mem_cons, List.mem_cons, ddL_mem r k]
theorem ddL_nodup : ∀ ns : List Int, (ddL ns).Nodup
  | [] => List.nodup_nil
  | x :: r => by
    unfold ddL
    split
    · exact ddL_nodup r
    · rename_i h
      exact List.nodup_cons.mpr ⟨fun z => h ((ddL_mem r x).mp z), ddL_nodup r⟩
theorem ddL_le : ∀ ns : List Int, (ddL ns).length ≤ ns.length
  | [] => Nat.le_refl _
  | x :: r => by
    have := ddL_le r
    unfold ddL
    split <;> simp only [List.length_cons] <;> omega
theorem ddL_eq : ∀ ns : List Int, (ddL ns).length = ns.length ↔ ns.Nodup
  | [] => ⟨fun _ => List.nodup_nil, fun _ => rfl⟩
  | x :: r => by
    have h1 := ddL_le r
    have h2 := ddL_eq r
    rw [List.nodup_cons]
    unfold ddL
    split
    · rename_i h
      exact ⟨fun z => by simp only [List.length_cons] at z; omega, fun z => absurd h z.1⟩
    · rename_i h
      simp only [List.length_cons, Nat.add_right_cancel_iff]
      rw [h2]
      exact ⟨fun z => ⟨h, z⟩, fun z => z.2⟩
def lenSetD : D → R D
  | .tup ds => match intsD ds with
    | some ns => if ns.length ≤ 4000 then .ok (.int (ddL ns).length) else .bad
    | none => .bad
  | _ => .bad
theorem lenSetD_nx (a : D) (y : Ex) (l : Lc) : lenSetD a ≠ .exc y l := by
  unfold lenSetD
  split <;> (repeat' split) <;> simp
theorem intsD_ds {k : Kx} {H : Hp} {M : Addr → Prop} : ∀ {ds : List D} {ns : List Int} {vs : List V}, intsD ds = some ns → IsDs k H M ds vs → vs = ns.map V.int
  | [], ns, vs, h, i => by
    cases h
    exact i
  | d :: ds, ns, vs, h, ⟨v, r, e, i1, i2⟩ => by
    subst e
    cases d with
    | int j =>
      unfold intsD at h
      split at h
      · rename_i xs e1
        cases h
        rw [intsD_ds e1 i2, show v = V.int j from i1]
        rfl
      · cases h
    | _ => cases h
theorem je_lenSet {X : Cx} {C : Ct} {f : MD D} {a : Expr} {p p2 q pos : Pos} (hK : C.k.K = X.K) (hc : X.calm = true) (hg : Gl X "len") (hm : X.mg "len" = none) (hg2 : Gl X "set") (hm2 : X.mg "set" = none) (ha : PE X a (tE C f))
    (na : starEach [a] X.env = (false, eval a X.env) :: starEach [] X.env := by rfl) : PE X (.Call (.Name "len" p) [.Call (.Name "set" p2) [a] [] q] [] pos) (tE C (un1 lenSetD f)) := by
  have base : PE X (.Call (.Name "len" p) [.Call (.Name "set" p2) [a] [] q] [] pos) (fun σ H Q => tE C f σ H fun v H1 => ∃ (l : Addr) (ns : List Int), v = .ref l ∧ SqT X.K H1 l (ns.map V.int) ∧ ns.length ≤ 4000 ∧ Q (.int (ddL ns).length) H1) := by
    constructor
    intro pins s σ H Q I h
    refine Call_ (ld_blt I hg hm boot_len ?_)
    refine PyProof.Rows.callWith_builtin1 (PyProof.Rows.args_cons ?_ rfl) rfl rfl
    refine Call_ (ld_blt I hg2 hm2 boot_set ?_)
    refine PyProof.Rows.callWith_type1 (PyProof.Rows.args_cons (thn (ha.run pins s σ H _ I h) fun v s1 ⟨x, H1, I1, r1, q1⟩ => PyProof.Rows.args_nil ?_) na) na rfl
    obtain ⟨l, ns, rfl, ht, hl, q1⟩ := q1
    cases r1
    obtain ⟨its, rv, tp, _⟩ := I1.tuple ht
    refine call_set_tupI ns (I1.ok.hd hc) (show s1.heap.IsTuple l its.toArray from tp) (by simpa using RZ.intsAre_vals rv) (by unfold scanBound; omega) fun h' tk c hS hle hk => ?_
    refine PyProof.Rows.args_nil ?_
    obtain ⟨o, es, ep, t, ho, hex, hd, _, nd, hmem, hb, hf, hn, _, _⟩ := hS
    have I2 : Inv X pins σ H1 { s1 with heap := h', toks := tk } := I1.kept hk
    have hcount : es.size = (ddL ns).length := by
      have pm : (es.toList.map keyOf).Perm (ddL ns) := (List.perm_ext_iff_of_nodup nd (ddL_nodup ns)).mpr fun k => by
        rw [ddL_mem, ← hmem k, decide_eq_true_iff]
      rw [← pm.length_eq, List.length_map, Array.length_toList]
    exact call_len_set ho hex hd hf (by have := ddL_le ns; rw [hcount]; omega) ⟨.int (ddL ns).length, H1, I2.tok _, ⟨_, by rw [hcount]⟩, q1⟩
  refine PE.imp base fun σ H Q ⟨e, s, o⟩ => ⟨e, s, (Out.bind o).imp (fun p hp => ?_) fun _ _ z => z⟩
  intro v H1 x1 s1 i1
  have hp2 : Out (PO1 C σ H Q) (XO C σ H) ((lenSetD p.1).at p.2) := hp
  obtain ⟨d, e1⟩ := p
  cases d with
  | tup ds =>
    cases hi : intsD ds with
    | none =>
      have : lenSetD (.tup ds) = .bad := by
        unfold lenSetD
        simp only [hi]
      rw [this] at hp2
      exact hp2.elim
    | some ns =>
      by_cases hz : ns.length ≤ 4000
      · have : lenSetD (.tup ds) = .ok (.int (ddL ns).length) := by
          unfold lenSetD
          simp only [hi, if_pos hz]
        rw [this] at hp2
        obtain ⟨l, vs, rfl, ht, hds⟩ := i1
        rw [intsD_ds hi hds, hK] at ht
        exact ⟨l, ns, rfl, ht, hz, hp2 _ H1 x1 s1 rfl⟩
      · have : lenSetD (.tup ds) = .bad := by
          unfold lenSetD
          simp only [hi, if_neg hz]
        rw [this] at hp2
        exact hp2.elim
  | _ => exact hp2.elim
/-! ### list(t), as a new list -/
def lstFr (f : MD D) : MD (List D) := fun e => (f e).bind fun p => match p.1 with
  | .lst ds => .ok (ds, p.2)
  | .tup ds => .ok (ds, p.2)
  | _ => .bad
theorem jf_list {X : Cx} {C : Ct} {f : MD D} {a : Expr} {p pos : Pos} (hg : Gl X "list") (hm : X.mg "list" = none) (ha : PE X a (tE C f)) (hK : C.k.K = X.K := by rfl)
    (na : starEach [a] X.env = (false, eval a X.env) :: starEach [] X.env := by rfl) : PE X (.Call (.Name "list" p) [a] [] pos) (tF C (lstFr f)) := by
  refine PE.imp (pe_callTy call_list_of hg hm PyProof.Rows.boot_list (pa_cons ha pa_nil na) (by decide) (by decide) na rfl) fun σ H Q ⟨e, s, o⟩ => ⟨e, s, (Out.bind o).imp (fun p hp => ?_) fun _ _ z => z⟩
  intro v H1 x1 s1 i1
  obtain ⟨d, e1⟩ := p
  cases d with
  | lst ds =>
    obtain ⟨l, vs, rfl, h1, _, h2⟩ := i1
    exact ⟨l, vs, rfl, .inl (.inl (.inl h1)), fun q hq => hp vs H1 q x1 s1 h2 hq⟩
  | tup ds =>
    obtain ⟨l, vs, rfl, h1, h2⟩ := i1
    exact ⟨l, vs, rfl, .inr (by rw [← hK]; exact h1), fun q hq => hp vs H1 q x1 s1 h2 hq⟩
  | _ => exact hp.elim
end Dn

namespace Dn
open PySem PySem.Spec PyProof.Rows L2
/-! ### sorted(set(xs)), xs a list of ints -/
def insU (x : Int) : List Int → List Int
  | [] => [x]
  | y :: r => if x < y then x :: y :: r else if x = y then y :: r else y :: insU x r
def sortU : List Int → List Int
  | [] => []
  | x :: r => insU x (sortU r)
theorem insU_mem (x : Int) : ∀ (l : List Int) (k : Int), k ∈ insU x l ↔ k = x ∨ k ∈ l
  | [], k => by simp [insU]
  | y :: r, k => by
    unfold insU
    split
    · simp
    · split
      · rename_i h
        subst h
        simp
      · rw [List.mem_cons, insU_mem x r k, List.mem_cons]
        constructor
        · rintro (h | h | h)
          · exact .inr (.inl h)
          · exact .inl h
          · exact .inr (.inr h)
        · rintro (h | h | h)
          · exact .inr (.inl h)
          · exact .inl h
          · exact .inr (.inr h)
theorem sortU_mem : ∀ (l : List Int) (k : Int), k ∈ sortU l ↔ k ∈ l
  | [], k => Iff.rfl
  | x :: r, k => by
    unfold sortU
    rw [insU_mem, sortU_mem r, List.mem_cons]
theorem insU_asc (x : Int) : ∀ (l : List Int), l.Pairwise (· < ·) → (insU x l).Pairwise (· < ·)
  | [], _ => List.pairwise_singleton _ _
  | y :: r, h => by
    obtain ⟨h1, h2⟩ := List.pairwise_cons.mp h
    unfold insU
    split
    · rename_i hlt
      refine List.pairwise_cons.mpr ⟨fun k hk => ?_, h⟩
      rcases List.mem_cons.mp hk with hk | hk
      · omega
      · have := h1 k hk
        omega
    · split
      · exact h
      · refine List.pairwise_cons.mpr ⟨fun k hk => ?_, insU_asc x r h2⟩
        rcases (insU_mem x r k).mp hk with hk | hk
        · omega
        · exact h1 k hk
theorem sortU_asc : ∀ l : List Int, (sortU l).Pairwise (· < ·)
  | [] => List.Pairwise.nil
  | x :: r => insU_asc x _ (sortU_asc r)
theorem asc_same : ∀ {l m : List Int}, l.Pairwise (· < ·) → m.Pairwise (· < ·) → (∀ k, k ∈ l ↔ k ∈ m) → l = m
  | [], [], _, _, _ => rfl
  | [], y :: m, _, _, h => by have := (h y).mpr (List.mem_cons_self ..); cases this
  | x :: l, [], _, _, h => by have := (h x).mp (List.mem_cons_self ..); cases this
  | x :: l, y :: m, hl, hm, h => by
    obtain ⟨l1, l2⟩ := List.pairwise_cons.mp hl
    obtain ⟨m1, m2⟩ := List.pairwise_cons.mp hm
    have e : x = y := by
      rcases List.mem_cons.mp ((h x).mp (List.mem_cons_self ..)) with a | a
      · exact a
      · rcases List.mem_cons.mp ((h y).mpr (List.mem_cons_self ..)) with b | b
        · exact b.symm
        · have := m1 x a
          have := l1 y b
          omega
    subst e
    congr 1
    refine asc_same l2 m2 fun k => ?_
    constructor
    · intro hk
      rcases List.mem_cons.mp ((h k).mp (List.mem_cons_of_mem _ hk)) with a | a
      · have := l1 k hk
        omega
      · exact a
    · intro hk
      rcases List.mem_cons.mp ((h k).mpr (List.mem_cons_of_mem _ hk)) with a | a
      · have := m1 k hk
        omega
      · exact a
theorem insU_len (x : Int) : ∀ l : List Int, (insU x l).length ≤ l.length + 1
  | [] => Nat.le_refl _
  | y :: r => by
    have := insU_len x r
    unfold insU
    split
    · exact Nat.le_refl _
    · split <;> simp only [List.length_cons] <;> omega
theorem sortU_len : ∀ l : List Int, (sortU l).length ≤ l.length
  | [] => Nat.le_refl _
  | x :: r => by
    have h1 := sortU_len r
    have h2 := insU_len x (sortU r)
    unfold sortU
    simp only [List.length_cons]
    omega
/-- an empty set as it is made -/
abbrev newS (w : World) : Obj := { cls := .type "set", dict := none, data := .set #[] 0 (.fresh 0 0 (!w.params.followText "set-order")) }
/-- an iterator of a list as it is made -/
abbrev newI (l : Addr) : Obj := { cls := .type "list_iterator", data := .fields #[.ref l, .int 0 0] }
section
variable {P : Program} {w : World} {A : Around} {E : Value → Shared → Prop} {s : Shared}
/-- set(xs), xs a list of ints: its members, told so that it can be walked -/
theorem call_setL {l : Addr} {us : Array Value} (ns : List Int) {Q : Value → Shared → Prop} (free : A.handled = none) (isl : s.heap.IsList l us) (isI : IntsAre us.toList ns) (few : ns.length + 1 < scanBound)
    (goal : ∀ (g : Heap) (u m : Nat), SetR w g s.heap.objs.size (fun j => decide (j ∈ ns)) m → m ≤ ns.length → (∀ b o, s.heap.get? b = some o → g.get? b = some o) → Q (.ref s.heap.objs.size) { s with heap := g, toks := u }) :
    wpAny (model P w) A (call (.type "set") [.ref l]) Q E s := by
  have len : us.size = ns.length := (Array.length_toList (xs := us)).symm.trans (IntsAre.length isI)
  obtain ⟨_, _, mro_is⟩ := F.called_set.mro
  have made_is := F.called_set.made
  have sub_is := F.called_set.sub
  refine wpAny_call (codeAny_of_tree ?_)
  show wpAny _ _ (callAny (.type "set") _) _ _ _
  refine wpAny_pure ⟨Code.quiet_builtin _ (by decide +kernel), codeAny_builtin F.entry_type_call ?_⟩
  rw [Around.under_plain (weight_type_call_type "set" [.ref l] []) rfl]
  have nt_is := F.called_set.notType
  have cc_is := F.called_set.canCreate
  have tc_is := F.typeCall_set_1 (.ref l)
  repeat (any_goals (first | assumption | wp_step))
  refine codeAny_mono (code_set_led1 (.ref l) (E := E) (Q₁ := fun ob z => ob = .ref s.heap.objs.size ∧ z = { s with heap := s.heap.push (newS w) }) ⟨rfl, rfl⟩) fun res z got => ?_
  match res, got with
  | .error _, got => exact got
  | .ok (.ret ob), got =>
    obtain ⟨rfl, rfl⟩ := got
    have at0 : (s.heap.push (newS w)).get? s.heap.objs.size = some (newS w) := Heap.get?_push_size _ rfl
    have ty0 : Shared.TypeIs { s with heap := s.heap.push (newS w) } (.ref s.heap.objs.size) "set" := ⟨_, at0, rfl⟩
    have lk_is := F.called_set.init.lookup
    have bd_is := F.called_set.init.bind (.ref s.heap.objs.size)
    repeat (any_goals (first | assumption | wp_step))
    refine codeAny_mono (codeAny_call_builtin (R := wants (fun rr z2 => rr = .none ∧ ∃ g u m, z2 = { s with heap := g, toks := u } ∧ SetR w g s.heap.objs.size (fun j => decide (j ∈ ns)) m ∧ m ≤ ns.length ∧ (∀ b o, s.heap.get? b = some o → g.get? b = some o)) E)
      F.called_set.init.plain F.entry_set_init (check_set_init_1 ty0 ?_)) fun res2 z2 got2 => ?_
    · obtain ⟨⟨oc, od, oda, osl⟩, ho, hc, nn, hd⟩ := isl
      dsimp only at hc hd
      subst hc hd
      have ho2 : (s.heap.push (newS w)).get? l = some { cls := .type "list", dict := od, data := .seq us nn, slots := osl } := Heap.get?_push_of_some _ ho
      have n1 := F.sub_list_set
      have n2 := F.sub_list_frozenset
      have n3 : (Value.type "list" == Value.type "dict") = false := by decide
      have isl2 : (s.heap.push (newS w)).IsList l us := ⟨_, ho2, rfl, nn, rfl⟩
      unfold Builtin.«set.__init__» noKeywords Builtin.Frozenset.updateFrom
      generalize eqp : pyIter = PI
      wp_walk
      subst eqp
      refine wpAny_pyIter_list isl2 (wpAny_bind (wpAny_runValue ?_))
      have below : l < s.heap.objs.size := Heap.lt_size ho
      have sz1 : (s.heap.push (newS w)).objs.size = s.heap.objs.size + 1 := Heap.size_push ..
      have ne1 : l ≠ (s.heap.push (newS w)).objs.size := by
        rw [sz1]
        exact Nat.ne_of_lt (Nat.lt_succ_of_lt below)
      have out1 : s.heap.objs.size ∉ [(s.heap.push (newS w)).objs.size, l] := fun z => by
        rcases List.mem_cons.mp z with z | z
        · rw [sz1] at z
          exact Nat.ne_of_lt (Nat.lt_succ_self _) z
        · exact Nat.ne_of_gt below (List.mem_singleton.mp z)
      refine set_update_ints ((Walks.list (by simp [free]) _ l ne1 us).toS) s.heap.objs.size out1 ns len few (fun i v hv => ?_) (us.size - 0) 0 _ (by omega) (Nat.zero_le _) ⟨⟨_, Heap.get?_push_size _ rfl, rfl, rfl⟩, (isl2.push _)⟩ ⟨0, Nat.le_refl 0, ?_⟩ ?_
      · have hv' : us.toList[i]? = some v := by rw [Array.getElem?_toList]; exact hv
        have hi : i < ns.length := by
          have := (List.getElem?_eq_some_iff.mp hv').1
          rw [Array.length_toList] at this
          omega
        obtain ⟨t, e⟩ := PyProof.Rows.IntsAre.int_at isI i v hv'
        refine ⟨ns[i], t, List.getElem?_eq_getElem hi, ?_⟩
        rw [e, List.getD_eq_getElem?_getD, List.getElem?_eq_getElem hi]
        rfl
      · refine setR_new_at ?_
        show ((s.heap.push (newS w)).push (newI l)).get? s.heap.objs.size = some (newS w)
        exact Heap.get?_push_of_some _ at0
      · rintro ⟨g, gg, dd, u, oo⟩ m moved hm hS
        obtain rfl : gg = s.gens := moved.gens
        obtain rfl : dd = s.drawn := moved.drawn
        obtain rfl : oo = s.os := moved.os
        rw [len] at hm
        show wpAny _ _ (pure _) _ _ _
        refine wpAny_pure ?_
        show wpAny _ _ (ret Value.none) _ _ _
        refine wpAny_pure ⟨rfl, g, u, m, rfl, hS, hm, fun b o e => ?_⟩
        have lt0 : b < s.heap.objs.size := Heap.lt_size e
        refine moved.heap b o (fun z => ?_) (Heap.get?_push_of_some _ (Heap.get?_push_of_some _ e))
        rcases List.mem_cons.mp z with z | z
        · exact Nat.ne_of_lt lt0 z
        · have z2 := List.mem_singleton.mp z
          rw [sz1] at z2
          exact Nat.ne_of_lt (Nat.lt_succ_of_lt lt0) z2
    · match res2, got2 with
      | .error _, got2 => exact got2
      | .ok (.ret rr), got2 =>
        obtain ⟨rfl, g, u, m, rfl, hS, hm, keep⟩ := got2
        repeat (any_goals (first | assumption | wp_step))
        exact goal _ _ _ hS hm keep
end
def sortSetF (f : MD D) : MD (List D) := fun e => (f e).bind fun p => match p.1 with
  | .lst ds => match intsD ds with
    | some ns => if ns.length < 60 then .ok ((sortU ns).map D.int, p.2) else .bad
    | none => .bad
  | _ => .bad
theorem ints_isDs {k : Kx} {H : Hp} {M : Addr → Prop} : ∀ ns : List Int, IsDs k H M (ns.map D.int) (ns.map V.int)
  | [] => rfl
  | n :: ns => ⟨.int n, ns.map V.int, rfl, rfl, ints_isDs ns⟩
theorem jf_sortSet {X : Cx} {C : Ct} {f : MD D} {a : Expr} {p p2 q pos : Pos} (hK : C.k.K = X.K) (hc : X.calm = true) (hg : Gl X "sorted") (hm : X.mg "sorted" = none) (hg2 : Gl X "set") (hm2 : X.mg "set" = none) (ha : PE X a (tE C f))
    (na : starEach [a] X.env = (false, eval a X.env) :: starEach [] X.env := by rfl) : PE X (.Call (.Name "sorted" p) [.Call (.Name "set" p2) [a] [] q] [] pos) (tF C (sortSetF f)) := by
  have base : PE X (.Call (.Name "sorted" p) [.Call (.Name "set" p2) [a] [] q] [] pos) (fun σ H Q => tE C f σ H fun v H1 => ∃ (l : Addr) (ns : List Int), v = .ref l ∧ SqL X.K H1 l (ns.map V.int) ∧ ns.length < 60 ∧ ∀ z, H1 z = none → Q (.ref z) (upd H1 z (.lst ((sortU ns).map V.int)))) := by
    constructor
    intro pins s σ H Q I h
    refine Call_ (ld_blt I hg hm PyProof.Rows.boot_sorted ?_)
    refine PyProof.Rows.callWith_builtin1 (PyProof.Rows.args_cons ?_ rfl) rfl rfl
    refine Call_ (ld_blt I hg2 hm2 boot_set ?_)
    refine PyProof.Rows.callWith_type1 (PyProof.Rows.args_cons (thn (ha.run pins s σ H _ I h) fun v s1 ⟨x, H1, I1, r1, q1⟩ => PyProof.Rows.args_nil ?_) na) na rfl
    obtain ⟨l, ns, rfl, hs, hl, q1⟩ := q1
    cases r1
    obtain ⟨its, rv, il, _⟩ := I1.list hs
    refine call_setL ns (I1.ok.hd hc) il.isList rv.ints (by unfold scanBound; omega) fun h' tk m R hle hk => PyProof.Rows.args_nil ?_
    have I2 : Inv X pins σ H1 { s1 with heap := h', toks := tk } := I1.kept hk
    refine sorted_set R (I2.ok.hd hc) (by omega) fun s3 z out c ks kp gg oo hz hg3 hi asc hmem hn => ?_
    have same : ks = sortU ns := asc_same asc (sortU_asc ns) fun j => by
      rw [hmem j, sortU_mem, decide_eq_true_iff]
    subst same
    have few : ((sortU ns).map V.int).length ≤ sizeLine := by
      have := sortU_len ns
      rw [List.length_map, sizeLine_eq]
      omega
    have fresh : H1 z = none := I2.hok.fresh hz
    have J : Inv X pins σ (upd H1 z (.lst ((sortU ns).map V.int))) { ({ s1 with heap := h', toks := tk } : Shared) with heap := s3.heap, gens := s3.gens, drawn := s3.drawn, toks := s3.toks } :=
      I2.call (ch := []) (Un.laid kp hz fresh) (I2.hok.laid kp hz ⟨few, out.toList, c, vals_of_ints hi, hg3⟩) (by rw [gg]; exact I2.bare) (fun _ z => nomatch z)
    have e3 : s3 = { s1 with heap := s3.heap, gens := s3.gens, drawn := s3.drawn, toks := s3.toks } := by
      cases s3
      cases s1
      cases oo
      rfl
    rw [e3]
    exact ⟨.ref z, _, J, rfl, q1 z fresh⟩
  refine PE.imp base fun σ H Q ⟨e, s, o⟩ => ⟨e, s, (Out.bind o).imp (fun r hp => ?_) fun _ _ z => z⟩
  intro v H1 x1 s1 i1
  obtain ⟨d, e1⟩ := r
  cases d with
  | lst ds =>
    dsimp only at hp
    cases hi : intsD ds with
    | none =>
      simp only [hi] at hp
      exact hp.elim
    | some ns =>
      simp only [hi] at hp
      by_cases hz : ns.length < 60
      · rw [if_pos hz] at hp
        obtain ⟨l, vs, rfl, h1, _, h2⟩ := i1
        rw [intsD_ds hi h2] at h1
        exact ⟨l, ns, rfl, .inl (.inl h1), hz, fun z hz => hp ((sortU ns).map V.int) H1 z x1 s1 (ints_isDs _) hz⟩
      · rw [if_neg hz] at hp
        exact hp.elim
  | _ => exact hp.elim
end Dn

namespace Dn
open PySem PySem.Spec PyProof.Rows L2
/-! ### names = values and new lists, several at once -/
abbrev Pts := List (MD D ⊕ MD (List D))
def evP : Pts → MD (List D)
  | [] => fun e => .ok ([], e)
  | .inl f :: r => fun e => (noX (f e)).bind fun p => (noX (evP r p.2)).bind fun q => .ok (p.1 :: q.1, q.2)
  | .inr f :: r => fun e => (noX (f e)).bind fun p => (noX (evP r p.2)).bind fun q => .ok (.lst p.1 :: q.1, q.2)
def setAll : List Nat → List D → Lc → Lc
  | i :: is, d :: ds, e => setAll is ds (e.set i (some d))
  | _, _, e => e
def setAllV : List Nat → List V → L2.St → L2.St
  | i :: is, v :: vs, σ => setAllV is vs (σ.set i (some v))
  | _, _, σ => σ
def mulS (is : List Nat) (fs : Pts) : MS := fun e => (noX (evP fs e)).bind fun p => .ok (.nx, setAll is p.1 p.2)
/-- the new lists among the values -/
def Refs : Pts → List V → Addr → Prop
  | .inl _ :: r, _ :: vs, a => Refs r vs a
  | .inr _ :: r, v :: vs, a => v = .ref a ∨ Refs r vs a
  | _, _, _ => False
def Held (C : Ct) (σ : L2.St) (H : Hp) (M' : Addr → Prop) : Pts → List D → List V → Prop
  | [], ds, vs => ds = [] ∧ vs = []
  | .inl _ :: r, ds, vs => ∃ d dr v vr, ds = d :: dr ∧ vs = v :: vr ∧ IsD C.k H (MO (C.b M') σ) d v ∧ Held C σ H M' r dr vr
  | .inr _ :: r, ds, vs => ∃ es dr q vr ws, ds = .lst es :: dr ∧ vs = .ref q :: vr ∧ (M' q ∧ ¬ C.M q ∧ C.H0 q = none ∧ C.par ≠ some q) ∧ H q = some (.lst ws) ∧ IsDs C.k H (MO (C.b M') σ) es ws ∧ (∀ a, Refs r vr a → a ≠ q) ∧ Held C σ H M' r dr vr
section
variable {C : Ct} {σ : L2.St} {H : Hp} {M' : Addr → Prop}
theorem Held.len : ∀ {fs : Pts} {ds : List D} {vs : List V}, Held C σ H M' fs ds vs → vs.length = fs.length ∧ ds.length = fs.length
  | [], _, _, ⟨e1, e2⟩ => by rw [e1, e2]; exact ⟨rfl, rfl⟩
  | .inl _ :: r, _, _, ⟨d, dr, v, vr, e1, e2, _, h⟩ => by
    have := h.len
    rw [e1, e2]
    simp only [List.length_cons]
    omega
  | .inr _ :: r, _, _, ⟨es, dr, q, vr, ws, e1, e2, _, _, _, _, h⟩ => by
    have := h.len
    rw [e1, e2]
    simp only [List.length_cons]
    omega
theorem Held.ref : ∀ {fs : Pts} {ds : List D} {vs : List V} {a : Addr}, Held C σ H M' fs ds vs → Refs fs vs a → M' a ∧ ¬ C.M a
  | [], _, _, _, _, h => h.elim
  | .inl _ :: r, _, _, a, ⟨d, dr, v, vr, e1, e2, _, h⟩, z => by
    subst e2
    exact h.ref z
  | .inr _ :: r, _, _, a, ⟨es, dr, q, vr, ws, e1, e2, f, _, _, _, h⟩, z => by
    subst e2
    rcases z with z | z
    · cases z
      exact ⟨f.1, f.2.1⟩
    · exact h.ref z
theorem Held.mono {σ' : L2.St} {M'' : Addr → Prop} (hm : ∀ a, MO (C.b M'') σ' a → MO (C.b M') σ a) : ∀ {fs : Pts} {ds : List D} {vs : List V}, (∀ a, Refs fs vs a → M'' a) → Held C σ H M' fs ds vs → Held C σ' H M'' fs ds vs
  | [], _, _, _, h => h
  | .inl _ :: r, _, _, hr, ⟨d, dr, v, vr, e1, e2, i, h⟩ => by
    subst e2
    exact ⟨d, dr, v, vr, e1, rfl, i.mono hm, h.mono hm hr⟩
  | .inr _ :: r, _, _, hr, ⟨es, dr, q, vr, ws, e1, e2, f, hq, i, di, h⟩ => by
    subst e2
    exact ⟨es, dr, q, vr, ws, e1, rfl, ⟨hr q (.inl rfl), f.2⟩, hq, i.mono hm, di, h.mono hm fun a z => hr a (.inr z)⟩
theorem Held.ctx {M0 : Addr → Prop} (hm : ∀ a, C.M a → M0 a) : ∀ {fs : Pts} {ds : List D} {vs : List V}, Held (C.b M0) σ H M' fs ds vs → Held C σ H M' fs ds vs
  | [], _, _, h => h
  | .inl _ :: r, _, _, ⟨d, dr, v, vr, e1, e2, i, h⟩ => ⟨d, dr, v, vr, e1, e2, i, h.ctx hm⟩
  | .inr _ :: r, _, _, ⟨es, dr, q, vr, ws, e1, e2, f, hq, i, di, h⟩ => ⟨es, dr, q, vr, ws, e1, e2, ⟨f.1, fun z => f.2.1 (hm q z), f.2.2⟩, hq, i, di, h.ctx hm⟩
theorem SR.rb {e : Lc} (s : SR C e σ H) : SR (C.b C.M) e σ H := ⟨s.len, s.val, s.ow, s.dist, s.fr, s.ext, s.al, s.nm, s.alo, s.p0, s.pm⟩
theorem SR.drop {e : Lc} (h : ∀ a, C.M a → M' a) (s : SR (C.b M') e σ H) : SR C e σ H := by
  have mm : ∀ a, MO C σ a → MO (C.b M') σ a := fun a z => z.imp (h a) id
  refine ⟨s.len, fun i d hi he => ?_, fun i d hi he => ?_, s.dist, s.fr, s.ext, fun a z => s.al a (h a z), fun i a hi z => (s.nm i a hi z).imp (fun n y => n (h a y)) id, s.alo, s.p0, s.pm⟩
  · obtain ⟨v, h1, h2⟩ := s.val i d hi he
    exact ⟨v, h1, h2.mono mm⟩
  · obtain ⟨a, h1, h2⟩ := s.ow i d hi he
    exact ⟨a, h1, OwnD.step (Ext.refl _ _) (fun b z => .inl (mm b z)) h2 fun o z => z⟩
/-- a held list becomes one's own -/
theorem SR.adopt {e : Lc} {i : Nat} {q : Addr} {es : List D} {ws : List V} (s : SR (C.b M') e σ H) (hi : i ∈ C.own) (hf : Free C i) (hM : M' q) (h0 : C.H0 q = none) (hp : C.par ≠ some q) (hq : H q = some (.lst ws)) (iv : IsDs C.k H (MO (C.b M') σ) es ws) :
    SR (C.b fun a => M' a ∧ a ≠ q) (e.set i (some (.lst es))) (σ.set i (some (.ref q))) H ∧ (∀ a, MO (C.b fun a => M' a ∧ a ≠ q) (σ.set i (some (.ref q))) a → MO (C.b M') σ a) := by
  by_cases hl : i < σ.length
  rotate_left
  · have e1 : σ.set i (some (.ref q)) = σ := List.set_eq_of_length_le (by omega)
    have e2 : e.set i (some (.lst es)) = e := List.set_eq_of_length_le (by rw [s.len]; omega)
    rw [e1, e2]
    exact ⟨SR.drop (C := C.b fun a => M' a ∧ a ≠ q) (fun a z => z.1) s, fun a z => z.imp (fun z => z.1) id⟩
  have hne : ∀ j, i ≠ j → (σ.set i (some (.ref q)))[j]? = σ[j]? := fun j hj => List.getElem?_set_ne hj
  have hself : (σ.set i (some (.ref q)))[i]? = some (some (.ref q)) := List.getElem?_set_self hl
  have mm : ∀ a, MO (C.b fun a => M' a ∧ a ≠ q) (σ.set i (some (.ref q))) a → MO (C.b M') σ a := fun a z => by
    rcases z with z | ⟨j, hj, z⟩
    · exact .inl z.1
    · by_cases e0 : i = j
      · subst e0
        rw [hself] at z
        cases z
        exact .inl hM
      · rw [hne j e0] at z
        exact .inr ⟨j, hj, z⟩
  have el : i < e.length := by rw [s.len]; exact hl
  refine ⟨⟨by rw [List.length_set, List.length_set]; exact s.len, fun j d hj he => ?_, fun j d hj he => ?_, fun j k a hj hk h1 h2 => ?_, fun j a hj h => ?_, s.ext, fun a z => s.al a z.1, fun j a hj h => ?_, fun j a hj h => ?_, fun a h => ?_, s.pm⟩, mm⟩
  · have e0 : i ≠ j := fun z => hj (z ▸ hi)
    rw [List.getElem?_set_ne e0] at he
    obtain ⟨v, h1, h2⟩ := s.val j d hj he
    exact ⟨v, by rw [hne j e0]; exact h1, h2.mono mm⟩
  · by_cases e0 : i = j
    · subst e0
      rw [List.getElem?_set_self el] at he
      cases he
      exact ⟨q, hself, ws, hq, iv.mono mm⟩
    · rw [List.getElem?_set_ne e0] at he
      obtain ⟨a, h1, h2⟩ := s.ow j d hj he
      exact ⟨a, by rw [hne j e0]; exact h1, OwnD.step (Ext.refl _ _) (fun b z => .inl (mm b z)) h2 fun o z => z⟩
  · have no : ∀ k, k ∈ C.own → σ[k]? = some (some (.ref q)) → False := fun k hk z => by
      rcases s.nm k q hk z with y | y
      · exact y hM
      · exact hp y
    by_cases e1 : i = j
    · by_cases e2 : i = k
      · rw [← e1, ← e2]
      · subst e1
        rw [hself] at h1
        cases h1
        rw [hne k e2] at h2
        exact (no k hk h2).elim
    · by_cases e2 : i = k
      · subst e2
        rw [hself] at h2
        cases h2
        rw [hne j e1] at h1
        exact (no j hj h1).elim
      · rw [hne j e1] at h1
        rw [hne k e2] at h2
        exact s.dist j k a hj hk h1 h2
  · by_cases e1 : i = j
    · subst e1
      rw [hself] at h
      cases h
      exact .inl h0
    · rw [hne j e1] at h
      exact s.fr j a hj h
  · by_cases e1 : i = j
    · subst e1
      rw [hself] at h
      cases h
      exact .inl fun z => z.2 rfl
    · rw [hne j e1] at h
      exact (s.nm j a hj h).imp (fun n z => n z.1) id
  · by_cases e1 : i = j
    · subst e1
      rw [hself] at h
      cases h
      exact ⟨_, hq⟩
    · rw [hne j e1] at h
      exact s.alo j a hj h
  · exact hf.zero h (s.p0 a h)
/-- the slots fit the kinds -/
def SlotsOk (C : Ct) : List Nat → Pts → Prop
  | [], [] => True
  | i :: is, .inl _ :: r => i ∉ C.own ∧ Free C i ∧ SlotsOk C is r
  | i :: is, .inr _ :: r => (i ∈ C.own ∧ Free C i) ∧ SlotsOk C is r
  | _, _ => False
theorem store_all : ∀ {fs : Pts} {is : List Nat} {ds : List D} {vs : List V} {e : Lc} {σ : L2.St} {M' : Addr → Prop}, SlotsOk C is fs → (∀ a, C.M a → M' a) → SR (C.b M') e σ H → Held C σ H M' fs ds vs →
    SR C (setAll is ds e) (setAllV is vs σ) H ∧ ∀ a, OW C (setAllV is vs σ) a → OW C σ a ∨ (M' a ∧ ¬ C.M a)
  | [], [], _, _, e, σ, M', _, hm, s, ⟨e1, e2⟩ => by
    subst e1 e2
    exact ⟨s.drop hm, fun a z => .inl z⟩
  | [], _ :: _, _, _, _, _, _, h, _, _, _ => h.elim
  | .inl _ :: r, [], _, _, _, _, _, h, _, _, _ => h.elim
  | .inr _ :: r, [], _, _, _, _, _, h, _, _, _ => h.elim
  | .inl _ :: r, i :: is, _, _, e, σ, M', ⟨hi, hf, h⟩, hm, s, ⟨d, dr, v, vr, e1, e2, iv, hh⟩ => by
    subst e1 e2
    have s2 : SR (C.b M') (e.set i (some d)) (σ.set i (some v)) H := SR.set (C := C.b M') s hi hf iv
    have mo : MO (C.b M') (σ.set i (some v)) = MO (C.b M') σ := MO_set (C := C.b M') hi
    have ow : ∀ a, OW C (σ.set i (some v)) a → OW C σ a := fun a ⟨j, hj, z⟩ => by
      have e0 : i ≠ j := fun y => hi (y ▸ hj)
      rw [List.getElem?_set_ne e0] at z
      exact ⟨j, hj, z⟩
    obtain ⟨s3, h3⟩ := store_all (M' := M') h hm s2 (hh.mono (fun a z => by rw [mo] at z; exact z) fun a z => (hh.ref z).1)
    exact ⟨s3, fun a z => (h3 a z).imp (ow a) id⟩
  | .inr _ :: r, i :: is, _, _, e, σ, M', ⟨⟨hi, hf⟩, h⟩, hm, s, ⟨es, dr, q, vr, ws, e1, e2, f, hq, iv, di, hh⟩ => by
    subst e1 e2
    obtain ⟨s2, mm⟩ := SR.adopt s hi hf f.1 f.2.2.1 f.2.2.2 hq iv
    have ow : ∀ a, OW C (σ.set i (some (.ref q))) a → OW C σ a ∨ a = q := fun a ⟨j, hj, z⟩ => by
      by_cases e0 : i = j
      · subst e0
        by_cases hil : i < σ.length
        · rw [List.getElem?_set_self hil] at z
          cases z
          exact .inr rfl
        · rw [List.getElem?_eq_none (by rw [List.length_set]; omega)] at z
          cases z
      · rw [List.getElem?_set_ne e0] at z
        exact .inl ⟨j, hj, z⟩
    obtain ⟨s3, h3⟩ := store_all (M' := fun a => M' a ∧ a ≠ q) h (fun a z => ⟨hm a z, fun y => f.2.1 (y ▸ z)⟩) s2 (hh.mono mm fun a z => ⟨(hh.ref z).1, di a z⟩)
    refine ⟨s3, fun a z => ?_⟩
    rcases h3 a z with y | y
    · rcases ow a y with y | y
      · exact .inl y
      · exact .inr (by rw [y]; exact ⟨f.1, f.2.1⟩)
    · exact .inr ⟨y.1.1, y.2⟩
end
/-! the values, evaluated -/
def tMu (C : Ct) (fs : Pts) : TA := fun σ H Q => ∃ e, SR C e σ H ∧ Out (fun p : List D × Lc => ∀ vs H' M', (∀ a, C.M a → M' a) → (∀ a, M' a → C.M a ∨ H a = none) → Ext (OW C σ) H H' → SR (C.b M') p.2 σ H' → Held C σ H' M' fs p.1 vs → Q vs H') (fun _ _ => False) (evP fs e)
section
variable {X : Cx} {C : Ct}
def JM (C : Ct) (X : Cx) (es : List Expr) (fs : Pts) : Prop := ∀ M0, PA X es (tMu (C.b M0) fs)
theorem jm_nil : JM C X [] [] := fun M0 => by
  refine PA.imp pa_nil fun σ H Q ⟨e, s, o⟩ => ?_
  exact o [] H M0 (fun _ z => z) (fun _ z => .inl z) (Ext.refl _ _) s ⟨rfl, rfl⟩
theorem PA.exM {a : List Expr} {α : Type} {t : α → TA} (h : ∀ m, PA X a (t m)) : PA X a (fun σ H Q => ∃ m, t m σ H Q) := ⟨fun pos pins s σ H Q I ⟨m, hw⟩ => (h m).run pos pins s σ H Q I hw⟩
theorem ext_none {e : Lc} {σ : L2.St} {H H1 : Hp} {b : Addr} {u : HO} (x : Ext (OW C σ) H H1) (s : SR C e σ H1) (h : H b = some u) (y : H1 b = none) : False := by
  by_cases n : OW C σ b
  · obtain ⟨i, hi, z⟩ := n
    obtain ⟨o, ho⟩ := s.alo i b hi z
    rw [y] at ho
    cases ho
  · rw [x b u h (.inl n)] at y
    cases y
theorem jm_val {a : Expr} {es : List Expr} {f : MD D} {fs : Pts} (ha : ∀ M0, PE X a (tE (C.b M0) f)) (hr : JM C X es fs) (hs : starEach (a :: es) X.env = (false, eval a X.env) :: starEach es X.env := by rfl) : JM C X (a :: es) (.inl f :: fs) := fun M0 => by
  refine PA.imp (pa_cons (ha M0) (hr M0) hs) fun σ H Q ⟨e, s, o⟩ => ⟨e, s, (noX_bind (E' := XO (C.b M0) σ H) o).imp (fun p hp => ?_) fun _ _ z => z⟩
  intro v H1 x1 s1 i1
  refine ⟨p.2, s1, (noX_bind (E' := fun _ _ => False) hp).imp (fun q hq => ?_) fun _ _ z => z⟩
  intro vs H2 M2 m1 m2 x2 s2 hh
  refine hq (v :: vs) H2 M2 m1 (fun b z => (m2 b z).imp id fun y => ?_) (x1.trans x2) s2 ⟨p.1, q.1, v, vs, rfl, rfl, ?_, hh⟩
  · cases h0 : H b with
    | none => rfl
    | some u => exact (ext_none x1 s1 h0 y).elim
  · exact IsD.step x2.mo (fun b z => by
      rcases z with z | z
      · exact (m2 b z).imp (fun y => .inl y) id
      · exact .inl (.inr z)) _ _ i1
theorem jm_new {a : Expr} {es : List Expr} {f : MD (List D)} {fs : Pts} (ha : ∀ M0, PE X a (tF (C.b M0) f)) (hr : JM C X es fs) (hs : starEach (a :: es) X.env = (false, eval a X.env) :: starEach es X.env := by rfl) : JM C X (a :: es) (.inr f :: fs) := fun M0 => by
  refine PA.imp (pa_cons (ha M0) (PA.exM hr) hs) fun σ H Q ⟨e, s, o⟩ => ⟨e, s, (noX_bind (E' := XO (C.b M0) σ H) o).imp (fun p hp => ?_) fun _ _ z => z⟩
  intro ws H1 q x1 s1 i1 hq
  have s2 : SR (C.b fun a => M0 a ∨ a = q) p.2 σ (upd H1 q (.lst ws)) := SR.into (C := C.b M0) s1 hq
  refine ⟨fun a => M0 a ∨ a = q, p.2, s2, (noX_bind (E' := fun _ _ => False) hp).imp (fun r hr2 => ?_) fun _ _ z => z⟩
  intro vs H2 M2 m1 m2 x2 s3 hh
  have nq : ¬ M0 q := fun z => by
    obtain ⟨o, ho⟩ := s1.al q z
    rw [hq] at ho
    cases ho
  have npar : C.par ≠ some q := fun z => by
    obtain ⟨o, ho⟩ := s1.pm q z
    rw [hq] at ho
    cases ho
  have nH0 : C.H0 q = none := by
    cases h0 : C.H0 q with
    | none => rfl
    | some o =>
      have := s1.ext q o h0 (.inl npar)
      rw [hq] at this
      cases this
  have now : ¬ OW C σ q := fun ⟨i, hi, z⟩ => by
    obtain ⟨o, ho⟩ := s1.alo i q hi z
    rw [hq] at ho
    cases ho
  have hq2 : H2 q = some (.lst ws) := x2 q _ upd_same (.inl now)
  have x12 : Ext (OW C σ) H1 H2 := Ext.trans (Ext.upd hq) x2
  have mq : M2 q := m1 q (.inr rfl)
  refine hr2 (.ref q :: vs) H2 M2 (fun b z => m1 b (.inl z)) (fun b z => ?_) (x1.trans x12) s3 ⟨p.1, r.1, q, vs, ws, rfl, rfl, ⟨mq, nq, nH0, npar⟩, hq2, ?_, fun b z y => (hh.ref z).2 (.inr y), hh.ctx (C := C.b M0) fun b z => .inl z⟩
  · cases h0 : H b with
    | none => exact .inr rfl
    | some u =>
      refine .inl ?_
      rcases m2 b z with (y | y) | y
      · exact y
      · subst y
        exact (ext_none x1 s1 h0 hq).elim
      · exact (ext_none (x1.trans (Ext.upd hq)) (SR.grow s1 hq) h0 y).elim
  · refine IsDs.step (k := C.k) (H := H1) (M := MO (C.b M0) σ) (Ext.mo (C := C.b M0) x12) (fun b z => ?_) _ _ i1
    rcases z with z | z
    · rcases m2 b z with (y | y) | y
      · exact .inl (.inl y)
      · exact .inr (by rw [y]; exact hq)
      · refine .inr ?_
        cases h0 : H1 b with
        | none => rfl
        | some u =>
          rw [upd_ne (ne_of_none h0 hq)] at y
          rw [y] at h0
          cases h0
    · exact .inl (.inr z)
/-- what comes of it all -/
theorem mul_fin {is : List Nat} {fs : Pts} {σ : L2.St} {H : Hp} {Q : L2.St → Hp → Prop} {p : List D × Lc} (hsl : SlotsOk C is fs)
    (hq : ∀ σ' H', Stp C σ H σ' H' → SR C (setAll is p.1 p.2) σ' H' → Q σ' H') {vs : List V} {H1 H2 : Hp} {M1 : Addr → Prop} (m1 : ∀ a, C.M a → M1 a) (m2 : ∀ a, M1 a → C.M a ∨ H a = none) (x1 : Ext (OW C σ) H H1) (s1 : SR (C.b M1) p.2 σ H1) (hh : Held C σ H1 M1 fs p.1 vs)
    (h2 : H2 = H1 ∨ ∃ q o, H1 q = none ∧ H2 = upd H1 q o) : Q (setAllV is vs σ) H2 := by
  obtain ⟨s2, ow⟩ := store_all hsl m1 s1 hh
  have stp : Stp C σ H (setAllV is vs σ) H1 := ⟨x1, fun a z => (ow a z).imp id fun y => (m2 a y.1).resolve_left y.2⟩
  rcases h2 with rfl | ⟨q, o, hf, rfl⟩
  · exact hq _ _ stp s2
  · exact hq _ _ ⟨x1.trans (Ext.upd hf), stp.ow⟩ (s2.grow hf)
end
/-! the three ways in which such a statement runs -/
section
variable {X : Cx} {C : Ct} {a b c : Expr} {pos px py pz pt pt2 : Pos} {x y z : Str} {i j l : Nat} {kt k2 : Nat}
theorem js_mul2 {u v : MD D ⊕ MD (List D)} (hc : X.calm = true) (hN : X.N.Nodup) (hi : X.N[i]? = some x) (hj : X.N[j]? = some y) (hij : i ≠ j) (hx : X.env.scope.names.lookup x = some .local) (hy : X.env.scope.names.lookup y = some .local) (hsl : SlotsOk C [i, j] [u, v]) (ha : JM C X [a, b] [u, v])
    (hw : swappedStores [.Tuple [.Name x px, .Name y py] kt pt] (.Tuple [a, b] k2 pt2) X.env = pure (some [x, y]))
    (hs : swapsWithSole [.Tuple [.Name x px, .Name y py] kt pt] (.Tuple [a, b] k2 pt2) pos.line X.env = pure false := by rfl) :
    PS X (.Assign [.Tuple [.Name x px, .Name y py] kt pt] (.Tuple [a, b] k2 pt2) pos) (tS C (mulS [i, j] [u, v])) := by
  refine PS.imp (ps_par hc hN hi hj hij hx hy (ha C.M) hw hs) fun D σ H ⟨e, s, o⟩ => ⟨e, s.rb, (noX_bind (E' := fun _ _ => False) o).imp (fun p hp => ?_) fun _ _ z => z⟩
  intro vs H1 M1 m1 m2 x1 s1 hh
  match vs, hh.len.1 with
  | [v1, v2], _ => exact ⟨v1, v2, rfl, mul_fin (Q := D.nx) hsl (fun σ' H' st sr => hp σ' H' st sr) m1 m2 x1 s1 (hh.ctx fun _ z => z) (.inl rfl)⟩
theorem js_mul3 {u v w : MD D ⊕ MD (List D)} (hc : X.calm = true) (hN : X.N.Nodup) (hi : X.N[i]? = some x) (hj : X.N[j]? = some y) (hl : X.N[l]? = some z) (hij : i ≠ j) (hil : i ≠ l) (hjl : j ≠ l) (hx : X.env.scope.names.lookup x = some .local) (hy : X.env.scope.names.lookup y = some .local) (hz : X.env.scope.names.lookup z = some .local) (hsl : SlotsOk C [i, j, l] [u, v, w]) (ha : JM C X [a, b, c] [u, v, w])
    (hw : swappedStores [.Tuple [.Name x px, .Name y py, .Name z pz] kt pt] (.Tuple [a, b, c] k2 pt2) X.env = pure (some [x, y, z]))
    (hs : swapsWithSole [.Tuple [.Name x px, .Name y py, .Name z pz] kt pt] (.Tuple [a, b, c] k2 pt2) pos.line X.env = pure false := by rfl) :
    PS X (.Assign [.Tuple [.Name x px, .Name y py, .Name z pz] kt pt] (.Tuple [a, b, c] k2 pt2) pos) (tS C (mulS [i, j, l] [u, v, w])) := by
  refine PS.imp (ps_par3 hc hN hi hj hl hij hil hjl hx hy hz (ha C.M) hw hs) fun D σ H ⟨e, s, o⟩ => ⟨e, s.rb, (noX_bind (E' := fun _ _ => False) o).imp (fun p hp => ?_) fun _ _ z => z⟩
  intro vs H1 M1 m1 m2 x1 s1 hh
  match vs, hh.len.1 with
  | [v1, v2, v3], _ => exact ⟨v1, v2, v3, rfl, mul_fin (Q := D.nx) hsl (fun σ' H' st sr => hp σ' H' st sr) m1 m2 x1 s1 (hh.ctx fun _ z => z) (.inl rfl)⟩
/-- targets that are names -/
def gNs (is : List Nat) : TGs := fun vs σ H Q => vs.length = is.length ∧ Q (setAllV is vs σ) H
theorem jn_nil : PGs X [] (gNs []) := PGs.imp pgs_nil fun vs σ H Q ⟨h1, h2⟩ => by
  have : vs = [] := List.length_eq_zero_iff.mp h1
  subst this
  exact ⟨rfl, h2⟩
theorem jn_cons {es : List Expr} {is : List Nat} (hN : X.N.Nodup) (hi : X.N[i]? = some x) (hx : Loc X.env.scope x) (hfn : X.fn x = true ∨ X.env.scope.names.lookup x = some .local) (h : PGs X es (gNs is)) (hs : (assignEach (.Name x px :: es) X.env).map (·.2) = assign (.Name x px) X.env :: (assignEach es X.env).map (·.2) := by rfl) : PGs X (.Name x px :: es) (gNs (i :: is)) :=
  PGs.imp (pgs_cons (pg_name hN hi hx hfn) h hs) fun vs σ H Q ⟨h1, h2⟩ => by
    match vs, h1 with
    | v :: r, h1 => exact ⟨v, r, rfl, by simpa using h1, h2⟩
theorem js_mulN {ns es : List Expr} {is : List Nat} {fs : Pts} (hK : C.k.K = X.K) (hc : X.calm = true) (hg : PGs X ns (gNs is)) (hsl : SlotsOk C is fs) (ha : JM C X es fs) (hlen : is.length = fs.length) (hfew : fs.length ≤ 1000)
    (hn : (assignEach ns X.env).length = is.length := by rfl) (hst : (assignEach ns X.env).findIdx? (·.1) = none := by rfl)
    (hw : swappedStores [.Tuple ns kt pt] (.Tuple es k2 pt2) X.env = pure none := by rfl)
    (hs : swapsWithSole [.Tuple ns kt pt] (.Tuple es k2 pt2) pos.line X.env = pure false := by rfl)
    (h1 : (assignEach [.Tuple ns kt pt] X.env).map (·.2) = [assign (.Tuple ns kt pt) X.env] := by rfl) :
    PS X (.Assign [.Tuple ns kt pt] (.Tuple es k2 pt2) pos) (tS C (mulS is fs)) := by
  refine PS.imp (ps_asg (pe_tup (ha C.M)) (pg_tup hc hg hn hst) hs hw h1) fun D σ H ⟨e, s, o⟩ => ⟨e, s.rb, (noX_bind (E' := fun _ _ => False) o).imp (fun p hp => ?_) fun _ _ z => z⟩
  intro vs H1 M1 m1 m2 x1 s1 hh
  have hl := hh.len.1
  refine ⟨by rw [hl, sizeLine_eq]; omega, fun q hq => ⟨q, vs, rfl, .inl (.inl upd_same), by omega, by omega, ?_⟩⟩
  exact mul_fin (Q := D.nx) hsl (fun σ' H' st sr => hp σ' H' st sr) m1 m2 x1 s1 (hh.ctx fun _ z => z) (.inr ⟨q, _, hq, rfl⟩)
end
end Dn

namespace Dn
open PySem PySem.Spec PyProof.Rows L2
/-! ### three comparisons in a row, as a test -/
def tCh3 (r r' r2 : R2) (ta tb tc td : TE) : TT := fun σ H Q => ta σ H fun x H1 => tb σ H1 fun y H2 => r x y H2 fun z H3 => ∃ k, z = .bl k ∧
  (if k = true then tc σ H3 fun w H4 => r' y w H4 fun z4 H5 => ∃ k4, z4 = .bl k4 ∧ (if k4 = true then td σ H5 fun w5 H6 => r2 w w5 H6 fun z6 H7 => ∃ k6, z6 = .bl k6 ∧ Q k6 H7 else Q false H5) else Q false H3)
section
variable {X : Cx} {C : Ct} {a b c d : Expr} {pos : Pos} {ta tb tc td : TE} {op op' op2 : CmpOp} {r r' r2 : R2}
theorem pt_ch3 (o1 : OpR X (compareOp op) r) (o2 : OpR X (compareOp op') r') (o3 : OpR X (compareOp op2) r2) (ha : PE X a ta) (hb : PE X b tb) (hc : PE X c tc) (hd : PE X d td)
    (hm : lastMarks [op, op', op2] [b, c, d] = false := by with_unfolding_all rfl) : PT X (.Compare a [op, op', op2] [b, c, d] pos) (tCh3 r r' r2 ta tb tc td) := by
  constructor
  intro pins s σ H Q I h
  refine isTrue_chain (thn (ha.run pins s σ H _ I h) fun va s1 ⟨x, H1, I1, ra, q1⟩ => test_link (thn (hb.run pins s1 σ H1 _ I1 q1) fun vb s2 ⟨y, H2, I2, rb, q2⟩ => thn (o1 pins s2 σ H2 x y va vb _ I2 ra rb q2) fun e1 s3 ⟨z, H3, I3, rz, k, ez, q3⟩ => ?_)) hm
  subst ez
  cases rz
  refine wpAny_truthy_bool ?_
  cases k with
  | false => exact ite_ff ⟨H3, I3, q3⟩
  | true =>
    refine ite_tt (test_link (thn (hc.run pins s3 σ H3 _ I3 q3) fun vc s4 ⟨w, H4, I4, rc, q4⟩ => thn (o2 pins s4 σ H4 y w vb vc _ I4 rb rc q4) fun e2 s5 ⟨z5, H5, I5, rz5, k5, ez5, q5⟩ => ?_))
    subst ez5
    cases rz5
    refine wpAny_truthy_bool ?_
    cases k5 with
    | false => exact ite_ff ⟨H5, I5, q5⟩
    | true =>
      refine ite_tt (test_last (thn (hd.run pins s5 σ H5 _ I5 q5) fun vd s6 ⟨w6, H6, I6, rd, q6⟩ => thn (o3 pins s6 σ H6 w w6 vc vd _ I6 rc rd q6) fun e3 s7 ⟨z7, H7, I7, rz7, k7, ez7, q7⟩ => ?_))
      subst ez7
      cases rz7
      exact wpAny_truthy_bool ⟨H7, I7, q7⟩
/-- f F g, and g G h, and h K l -/
def chn3 (F G K : D → D → R D) (f g h l : MD D) : MD Bool := fun e => (f e).bind fun p => (g p.2).bind fun q => (F p.1 q.1).bind fun t => match t with
  | .bl true => (h q.2).bind fun r => (G q.1 r.1).bind fun t2 => match t2 with
    | .bl true => (l r.2).bind fun u => (K r.1 u.1).bind fun t3 => match t3 with
      | .bl b => .ok (b, u.2)
      | _ => .bad
    | .bl false => .ok (false, r.2)
    | _ => .bad
  | .bl false => .ok (false, q.2)
  | _ => .bad
theorem jt_chn3 {F G K : D → D → R D} {f g h l : MD D} (o1 : OpR X (compareOp op) r) (o2 : OpR X (compareOp op') r') (o3 : OpR X (compareOp op2) r2) (d1 : OpD C r F) (d2 : OpD C r' G) (d3 : OpD C r2 K) (n1 : ∀ a b y l, F a b ≠ .exc y l) (n2 : ∀ a b y l, G a b ≠ .exc y l) (n3 : ∀ a b y l, K a b ≠ .exc y l)
    (ha : PE X a (tE C f)) (hb : PE X b (tE C g)) (hc : PE X c (tE C h)) (hd : PE X d (tE C l))
    (hm : lastMarks [op, op', op2] [b, c, d] = false := by with_unfolding_all rfl) : PT X (.Compare a [op, op', op2] [b, c, d] pos) (tT C (chn3 F G K f g h l)) := by
  refine PT.imp (pt_ch3 o1 o2 o3 ha hb hc hd hm) fun σ H Q ⟨e, s, o⟩ => ⟨e, s, (Out.bind o).imp (fun p hp => ?_) fun _ _ z => z⟩
  intro v1 H1 x1 s1 i1
  refine ⟨p.2, s1, (Out.bind hp).imp (fun q hq => ?_) fun _ _ z => z.ext x1⟩
  intro v2 H2 x2 s2 i2
  have x02 := x1.trans x2
  refine d1 σ q.2 H2 v1 v2 p.1 q.1 _ s2 ((Stp.of x2).isD i1).t i2.t ?_
  cases e0 : F p.1 q.1 with
  | exc y l => exact absurd e0 (n1 _ _ _ _)
  | bad =>
    rw [e0] at hq
    exact hq
  | ok t =>
    rw [e0] at hq
    intro v3 H3 k3 i3
    cases t with
    | bl bb =>
      cases i3
      refine ⟨bb, rfl, ?_⟩
      have x03 := x02.trans (same_ext k3)
      cases bb with
      | false =>
        rw [if_neg Bool.false_ne_true]
        exact hq H3 x03 (s2.same k3)
      | true =>
        rw [if_pos rfl]
        have hq2 : Out (fun p : Bool × Lc => ∀ H1, Ext (OW C σ) H H1 → SR C p.2 σ H1 → Q p.1 H1) (XO C σ H) ((h q.2).bind fun r => (G q.1 r.1).bind fun t2 => match t2 with
          | .bl true => (l r.2).bind fun u => (K r.1 u.1).bind fun t3 => match t3 with
            | .bl b => .ok (b, u.2)
            | _ => .bad
          | .bl false => .ok (false, r.2)
          | _ => .bad) := hq
        refine ⟨q.2, s2.same k3, (Out.bind hq2).imp (fun u hu => ?_) fun _ _ z => z.ext x03⟩
        intro v4 H4 x4 s4 i4
        have x24 : Ext (OW C σ) H2 H4 := (same_ext k3).trans x4
        have x04 := x02.trans x24
        refine d2 σ u.2 H4 v2 v4 q.1 u.1 _ s4 ((Stp.of x24).isD i2).t i4.t ?_
        cases e1 : G q.1 u.1 with
        | exc y l => exact absurd e1 (n2 _ _ _ _)
        | bad =>
          rw [e1] at hu
          exact hu
        | ok t =>
          rw [e1] at hu
          intro v5 H5 k5 i5
          cases t with
          | bl b5 =>
            cases i5
            refine ⟨b5, rfl, ?_⟩
            have x05 := x04.trans (same_ext k5)
            cases b5 with
            | false =>
              rw [if_neg Bool.false_ne_true]
              exact hu H5 x05 (s4.same k5)
            | true =>
              rw [if_pos rfl]
              have hu2 : Out (fun p : Bool × Lc => ∀ H1, Ext (OW C σ) H H1 → SR C p.2 σ H1 → Q p.1 H1) (XO C σ H) ((l u.2).bind fun w => (K u.1 w.1).bind fun t3 => match t3 with
                | .bl b => .ok (b, w.2)
                | _ => .bad) := hu
              refine ⟨u.2, s4.same k5, (Out.bind hu2).imp (fun m hm2 => ?_) fun _ _ z => z.ext x05⟩
              intro v6 H6 x6 s6 i6
              have x46 : Ext (OW C σ) H4 H6 := (same_ext k5).trans x6
              have x06 := x04.trans x46
              refine d3 σ m.2 H6 v4 v6 u.1 m.1 _ s6 ((Stp.of x46).isD i4).t i6.t ?_
              cases e2 : K u.1 m.1 with
              | exc y l => exact absurd e2 (n3 _ _ _ _)
              | bad =>
                rw [e2] at hm2
                exact hm2
              | ok t =>
                rw [e2] at hm2
                intro v7 H7 k7 i7
                cases t with
                | bl b7 =>
                  cases i7
                  exact ⟨b7, rfl, hm2 H7 (x06.trans (same_ext k7)) (s6.same k7)⟩
                | _ => exact hm2.elim
          | _ => exact hu.elim
    | _ => exact hq.elim
end
end Dn

namespace Dn
open PySem PySem.Spec PyProof.Rows L2
/-! ### slices with a step -/
/-- which places of a list, of a tuple -/
def idxL (lo hi : Option Int) (st : Int) (n : Nat) : List Nat := sliceRange (sliceBounds lo hi (some st) n).1 (sliceBounds lo hi (some st) n).2.1 (sliceBounds lo hi (some st) n).2.2
def idxT (lo hi : Option Int) (st : Int) (n : Nat) : List Nat := (List.range (Builtin.Slice.slicePlaces (Builtin.Slice.sliceAdjust lo hi st n).1 (Builtin.Slice.sliceAdjust lo hi st n).2 st)).map fun (m : Nat) => ((Builtin.Slice.sliceAdjust lo hi st n).1 + (m : Int) * st).toNat
def pickN {α : Type} (is : List Nat) (xs : List α) : List α := is.filterMap (xs[·]?)
theorem IsDs.pick {k : Kx} {H : Hp} {M : Addr → Prop} {ds : List D} {vs : List V} (h : IsDs k H M ds vs) : ∀ is : List Nat, IsDs k H M (pickN is ds) (pickN is vs)
  | [] => rfl
  | i :: is => by
    have ih := IsDs.pick h is
    unfold pickN at ih ⊢
    rw [List.filterMap_cons, List.filterMap_cons]
    cases e : ds[i]? with
    | none =>
      have : vs[i]? = none := List.getElem?_eq_none (by rw [h.length]; exact List.getElem?_eq_none_iff.mp e)
      rw [this]
      exact ih
    | some d =>
      obtain ⟨v, h1, h2⟩ := h.get e
      rw [h1]
      exact ⟨v, _, rfl, h2, ih⟩
theorem vals_pick {vs : List V} {us : List Value} (r : Vals vs us) : ∀ is : List Nat, Vals (pickN is vs) (pickN is us)
  | [] => .nil
  | i :: is => by
    have ih := vals_pick r is
    unfold pickN at ih ⊢
    rw [List.filterMap_cons, List.filterMap_cons]
    cases e : vs[i]? with
    | none =>
      have : us[i]? = none := List.getElem?_eq_none (by rw [← r.length]; exact List.getElem?_eq_none_iff.mp e)
      rw [this]
      exact ih
    | some d =>
      obtain ⟨u, h1, h2⟩ := r.get e
      rw [h1]
      exact .cons h2 ih
theorem pick_le {α : Type} (xs : List α) (is : List Nat) : (pickN is xs).length ≤ is.length := List.length_filterMap_le _ _
section
variable {prog : Program} {w : World} {A : Around} {E : Value → Shared → Prop} {s : Shared}
theorem applied_step {sl : Addr} {vl vu vs : Value} {lo hi : Option Int} {st : Int} {n : Nat} {Q : Int × Int × Nat → Shared → Prop} (hs : s.heap.IsSliceOf sl vl vu vs) (pl : IsPart vl lo) (pu : IsPart vu hi) (ps : IsPart vs (some st)) (h0 : st ≠ 0)
    (h : Q ((Builtin.Slice.sliceAdjust lo hi st n).1, st, Builtin.Slice.slicePlaces (Builtin.Slice.sliceAdjust lo hi st n).1 (Builtin.Slice.sliceAdjust lo hi st n).2 st) s) : wpAny (model prog w) A (Builtin.Slice.sliceApplied (.ref sl) (pure (n : Int))) Q E s := by
  obtain ⟨os, hos, hcs, hds⟩ := id hs
  unfold Builtin.Slice.sliceApplied Builtin.Slice.sliceFields
  refine wpAny_bind (wpAny_bind (wpAny_field hos hds (x := vl) rfl (wpAny_bind (wpAny_field hos hds (x := vu) rfl (wpAny_bind (wpAny_field hos hds (x := vs) rfl (wpAny_pure ?_)))))))
  refine wpAny_bind (HT.slicePart_ ps ?_)
  have hb : ((st == 0) = true) = False := by simp [h0]
  show wpAny _ _ (if (st == 0) = true then _ else _) _ _ s
  rw [if_neg (by simp [h0])]
  refine wpAny_bind (HT.slicePart_ pl (wpAny_bind (HT.slicePart_ pu (wpAny_bind (wpAny_pure ?_)))))
  exact wpAny_pure h
theorem tuple_step {t sl : Addr} {items : Array Value} {vl vu vs : Value} {lo hi : Option Int} {st : Int} {Q : Value → Shared → Prop} (ht : IsTup s.heap t items) (hs : s.heap.IsSliceOf sl vl vu vs) (pl : IsPart vl lo) (pu : IsPart vu hi) (ps : IsPart vs (some st)) (h0 : st ≠ 0) (h1 : st ≠ 1)
    (hsz : (pickN (idxT lo hi st items.size) items.toList).length ≤ sizeLine)
    (h : Q (.ref s.heap.objs.size) { s with heap := s.heap.push { cls := .type "tuple", data := .seq (pickN (idxT lo hi st items.size) items.toList).toArray } }) : wpAny (model prog w) A (getItem (.ref t) (.ref sl)) Q E s := by
  have room : sizeOk (.seq (pickN (idxT lo hi st items.size) items.toList).toArray) := by
    show ((pickN (idxT lo hi st items.size) items.toList).toArray).size ≤ sizeLine
    rw [List.size_toArray]
    exact hsz
  obtain ⟨os, hos, hcs, hds⟩ := id hs
  have isS : s.TypeIs (.ref sl) "slice" := ⟨os, hos, hcs⟩
  unfold getItem
  try with_reducible refine wpAny_holding ?_
  first | refine wpAny_bind (wpAny_pure ?_) | skip
  refine wpAny_bind (wpAny_sequenceKey ht.typeIs (by decide) ?_)
  refine wpAny_bind (wpAny_callSpecial?_slot (name := Str.ofString "__getitem__") ht.typeIs PyProof.Rows.slot_tuple_getitem (wpAny_call_entry PyProof.Rows.slot_tuple_getitem ht.typeIs entry_tuple_getitem ?_ (args_tuple_getitem _ _)))
  show wpAny _ _ (Builtin.Tuple.tupleItemsOf (.ref t) >>= _) _ _ s
  refine wpAny_bind (tupleItemsOf_ ht (wpAny_bind (wpAny_typeOf isS ?_)))
  rw [if_pos (by decide)]
  refine wpAny_bind (applied_step hs pl pu ps h0 ?_)
  have other : ¬ (((Builtin.Slice.sliceAdjust lo hi st ((items.size : Nat) : Int)).1 == 0 && st == 1 && Builtin.Slice.slicePlaces (Builtin.Slice.sliceAdjust lo hi st ((items.size : Nat) : Int)).1 (Builtin.Slice.sliceAdjust lo hi st ((items.size : Nat) : Int)).2 st == items.size) = true) := fun q => by
    rw [Bool.and_eq_true, Bool.and_eq_true] at q
    exact h1 (by simpa using q.1.2)
  show wpAny _ _ (if ((Builtin.Slice.sliceAdjust lo hi st ((items.size : Nat) : Int)).1 == 0 && st == 1 && Builtin.Slice.slicePlaces (Builtin.Slice.sliceAdjust lo hi st ((items.size : Nat) : Int)).1 (Builtin.Slice.sliceAdjust lo hi st ((items.size : Nat) : Int)).2 st == items.size) = true then _ else _) _ _ s
  rw [if_neg other]
  have same : ((List.range (Builtin.Slice.slicePlaces (Builtin.Slice.sliceAdjust lo hi st ((items.size : Nat) : Int)).1 (Builtin.Slice.sliceAdjust lo hi st ((items.size : Nat) : Int)).2 st)).filterMap fun (m : Nat) => items[((Builtin.Slice.sliceAdjust lo hi st ((items.size : Nat) : Int)).1 + (m : Int) * st).toNat]?).toArray = (pickN (idxT lo hi st items.size) items.toList).toArray := by
    unfold pickN idxT
    rw [List.filterMap_map]
    congr 2
    funext m
    show _ = items.toList[_]?
    rw [Array.getElem?_toList]
  rw [same]
  first
    | exact wpAny_bind (m := Builtin.Tuple.tupleExact _) (wpAny_newObj_type (wpAny_pure ⟨_, rfl, wpAny_pure h⟩) room)
    | exact wpAny_bind (m := Builtin.Tuple.tupleExact _) (wpAny_newObj_type (wpAny_bind (wpAny_pure (wpAny_pure ⟨_, rfl, wpAny_pure h⟩))) room)
    | exact wpAny_bind (wpAny_bind (m := Builtin.Tuple.tupleExact _) (wpAny_newObj_type (wpAny_pure (wpAny_pure ⟨_, rfl, wpAny_pure h⟩)) room))
    | exact wpAny_bind (wpAny_bind (m := Builtin.Tuple.tupleExact _) (wpAny_newObj_type (wpAny_pure ⟨_, rfl, wpAny_pure h⟩) room))
end
/-- what such a slice asks -/
def rStep (K : PySem.W.Frag) : V → Option Int → Option Int → Option Int → Hp → VK → Prop := fun x lo hi st H Q => ∃ k : Int, st = some k ∧ k ≠ 0 ∧
  ((∃ a xs, x = .ref a ∧ SqL K H a xs ∧ (pickN (idxL lo hi k xs.length) xs).length ≤ sizeLine ∧ ∀ p, H p = none → Q (.ref p) (upd H p (.lst (pickN (idxL lo hi k xs.length) xs)))) ∨
   (∃ a xs, x = .ref a ∧ SqT K H a xs ∧ k ≠ 1 ∧ (pickN (idxT lo hi k xs.length) xs).length ≤ sizeLine ∧ ∀ p, H p = none → Q (.ref p) (upd H p (.tup (pickN (idxT lo hi k xs.length) xs)))))
def tStep (r : V → Option Int → Option Int → Option Int → Hp → VK → Prop) (te : TE) (tl th ts : TO) : TE := fun σ H Q => te σ H fun x H1 => tl σ H1 fun lo H2 => th σ H2 fun hi H3 => ts σ H3 fun st H4 => r x lo hi st H4 Q
section
variable {X : Cx} {C : Ct}
theorem pe_step {e : Expr} {te : TE} {lo hi : Option Expr} {se : Expr} {tl th ts : TO} {p3 pos : Pos} (he : PE X e te) (hl : PO X lo tl) (hh : PO X hi th) (hst : PO X (some se) ts) : PE X (.Subscript e (.Slice lo hi (some se) p3) pos) (tStep (rStep X.K) te tl th ts) := by
  refine ⟨fun pins s σ H Q I h => ?_⟩
  refine Subscript_ (thn (he.run pins s σ H _ I h) fun v s1 ⟨x, H1, I1, r1, q1⟩ => ?_)
  refine wpAny_Slice (thn (hl.run pins s1 σ H1 _ I1 q1) fun vl s2 ⟨l, H2, I2, pl, q2⟩ => ?_)
  refine thn (hh.run pins s2 σ H2 _ I2 q2) fun vu s3 ⟨u, H3, I3, pu, q3⟩ => ?_
  refine thn (hst.run pins s3 σ H3 _ I3 q3) fun vs s4 ⟨o, H4, I4, ps, q4⟩ => ?_
  obtain ⟨k, rfl, k0, q4⟩ := q4
  have I5 : Inv X pins σ H4 { s4 with heap := s4.heap.push { cls := .type "slice", data := .fields #[vl, vu, vs] } } := I4.kept (t' := s4.toks) fun b ob q => Heap.get?_push_of_some _ q
  show wpAny (model X.prog X.w) X.A (subscriptTail e (.Slice lo hi (some se) p3) v (.ref s4.heap.objs.size)) (EP X pins σ Q) X.xe { s4 with heap := s4.heap.push { cls := .type "slice", data := .fields #[vl, vu, vs] } }
  rcases q4 with ⟨a, xs, rfl, hx, hz2, q⟩ | ⟨a, xs, rfl, hx, k1, hz2, q⟩
  · cases r1
    obtain ⟨its, r, ht, hz⟩ := I5.list hx
    have hlen := r.length
    refine tail_any (ops := [.ref a, .ref s4.heap.objs.size]) ht.isList.typeIs (PySem.slot_list_getitem.lookup) ?_ (by with_unfolding_all rfl)
    refine wpAny_getItem_list_slice ht.isList (Heap.IsSliceOf.new _ vl vu vs) pl pu ps (fun z => k0 (by cases z; rfl)) ?_ (by rw [List.size_toArray]; omega)
    have ep : slicePick its.toArray l u (some k) = (pickN (idxL l u k xs.length) its).toArray := by
      unfold slicePick pickN idxL
      simp only [List.size_toArray, List.getElem?_toArray, hlen]
    rw [ep]
    refine ⟨.ref _, _, I5.laid (t' := s4.toks) (o := .lst (pickN (idxL l u k xs.length) xs)) (fun b ob q => Heap.get?_push_of_some _ q) (Nat.le_refl _) ?_, rfl, q _ (I5.hok.fresh (Nat.le_refl _))⟩
    exact ⟨hz2, _, 0, vals_pick r _, Heap.get?_push_size _ rfl⟩
  · cases r1
    obtain ⟨its, r, ht, hz⟩ := I5.tuple hx
    have hlen := r.length
    have hpl := (vals_pick r (idxT l u k xs.length)).length
    refine tail_any (ops := [.ref a, .ref s4.heap.objs.size]) ht.typeIs (PyProof.Rows.slot_tuple_getitem.lookup) ?_ (by with_unfolding_all rfl)
    have es : its.toArray.size = xs.length := by rw [List.size_toArray, hlen]
    refine tuple_step ht (Heap.IsSliceOf.new _ vl vu vs) pl pu ps k0 k1 (by rw [es, ← hpl]; exact hz2) ?_
    rw [es]
    refine ⟨.ref _, _, I5.laid (t' := s4.toks) (o := .tup (pickN (idxT l u k xs.length) xs)) (fun b ob q => Heap.get?_push_of_some _ q) (Nat.le_refl _) ?_, rfl, q _ (I5.hok.fresh (Nat.le_refl _))⟩
    exact ⟨hz2, _, vals_pick r _, _, Heap.get?_push_size _ rfl, rfl, 0, rfl⟩
def stepD (lo hi st : Option Int) (d : D) : R D := match st with
  | some k => if k = 0 then .bad else match d with
    | .lst ds => if (pickN (idxL lo hi k ds.length) ds).length ≤ sizeLine then .ok (.lst (pickN (idxL lo hi k ds.length) ds)) else .bad
    | .tup ds => if k ≠ 1 ∧ (pickN (idxT lo hi k ds.length) ds).length ≤ sizeLine then .ok (.tup (pickN (idxT lo hi k ds.length) ds)) else .bad
    | _ => .bad
  | none => .bad
theorem stepD_nx (lo hi st : Option Int) (a : D) (y : Ex) (l : Lc) : stepD lo hi st a ≠ .exc y l := by
  unfold stepD
  split <;> (try split) <;> (try split) <;> (try split) <;> simp
def stepE (f : MD D) (lo hi st : MD (Option Int)) : MD D := fun e => (f e).bind fun p => (lo p.2).bind fun l => (hi l.2).bind fun u => (st u.2).bind fun k => (stepD l.1 u.1 k.1 p.1).at k.2
theorem IsDs.len_pick {k : Kx} {H : Hp} {M : Addr → Prop} {ds : List D} {vs : List V} (h : IsDs k H M ds vs) (is : List Nat) : (pickN is vs).length = (pickN is ds).length := (h.pick is).length
theorem je_step {a : Expr} {f : MD D} {fl fu fs : MD (Option Int)} {lo hi : Option Expr} {se : Expr} {pos p2 : Pos} (hK : C.k.K = X.K) (ha : PE X a (tE C f)) (hl : PO X lo (tO C fl)) (hu : PO X hi (tO C fu)) (hs : PO X (some se) (tO C fs)) : PE X (.Subscript a (.Slice lo hi (some se) p2) pos) (tE C (stepE f fl fu fs)) := by
  refine PE.imp (pe_step ha hl hu hs) fun σ H Q ⟨e, s, o⟩ => ⟨e, s, (Out.bind o).imp (fun p hp => ?_) fun _ _ z => z⟩
  rw [← hK]
  intro v H1 x1 s1 i1
  refine ⟨p.2, s1, (Out.bind hp).imp (fun l hl => ?_) fun _ _ z => z.ext x1⟩
  intro H2 x2 s2
  refine ⟨l.2, s2, (Out.bind hl).imp (fun u hu => ?_) fun _ _ z => z.ext (x1.trans x2)⟩
  intro H3 x3 s3
  refine ⟨u.2, s3, (Out.bind hu).imp (fun t ht => ?_) fun _ _ z => z.ext ((x1.trans x2).trans x3)⟩
  intro H4 x4 s4
  have i4 := (Stp.of ((x2.trans x3).trans x4)).isD i1
  have q : PNew C σ H4 Q (stepD l.1 u.1 t.1 p.1) := PNew.of ht (((x1.trans x2).trans x3).trans x4) s4 (stepD_nx _ _ _ _)
  unfold stepD at q
  split at q
  · rename_i k e0
    split at q
    · exact q.elim
    · rename_i k0
      refine ⟨k, e0, k0, ?_⟩
      split at q
      · rename_i ds e1
        rw [e1] at i4
        obtain ⟨a, vs, rfl, h1, _, h2⟩ := i4
        split at q
        · rename_i hz
          have hv : vs.length = ds.length := h2.length
          refine .inl ⟨a, vs, rfl, .inl (.inl h1), by rw [hv, h2.len_pick]; exact hz, fun p hp => ?_⟩
          rw [hv]
          exact q.lst s4 hp (h2.pick _)
        · exact q.elim
      · rename_i ds e1
        rw [e1] at i4
        obtain ⟨a, vs, rfl, h1, h2⟩ := i4
        split at q
        · rename_i hz
          have hv : vs.length = ds.length := h2.length
          refine .inr ⟨a, vs, rfl, h1, hz.1, by rw [hv, h2.len_pick]; exact hz.2, fun p hp => ?_⟩
          rw [hv]
          exact q.tup (e := t.2) hp (h2.pick _)
        · exact q.elim
      · exact q.elim
  · exact q.elim
end
end Dn

namespace Dn
open PySem PySem.Spec PyProof.Rows L2
/-! ### sorted(xs), tuples that begin with two ints, no two with the same two -/
def insB {α : Type} (key : α → Int × Int) (x : α) : List α → List α
  | [] => [x]
  | y :: r => if SrtO.lexB (key x) (key y) = true then x :: y :: r else y :: insB key x r
def sortBy {α : Type} (key : α → Int × Int) : List α → List α
  | [] => []
  | x :: r => insB key x (sortBy key r)
theorem insB_perm {α : Type} (key : α → Int × Int) (x : α) : ∀ l : List α, (insB key x l).Perm (x :: l)
  | [] => List.Perm.refl _
  | y :: r => by
    unfold insB
    split
    · exact List.Perm.refl _
    · exact ((insB_perm key x r).cons y).trans (List.Perm.swap x y r)
theorem sortBy_perm {α : Type} (key : α → Int × Int) : ∀ l : List α, (sortBy key l).Perm l
  | [] => List.Perm.refl _
  | x :: r => (insB_perm key x _).trans ((sortBy_perm key r).cons x)
theorem sortBy_len {α : Type} (key : α → Int × Int) (l : List α) : (sortBy key l).length = l.length := (sortBy_perm key l).length_eq
def UpK {α : Type} (key : α → Int × Int) (l : List α) : Prop := l.Pairwise fun a b => SrtO.lexB (key a) (key b) = true
theorem lexB_tri {p q : Int × Int} (h : p ≠ q) (n : ¬ SrtO.lexB p q = true) : SrtO.lexB q p = true := by
  rw [SrtO.lexB_iff] at n ⊢
  by_cases e : p.1 = q.1
  · by_cases e2 : p.2 = q.2
    · exact absurd (Prod.ext e e2) h
    · omega
  · omega
theorem insB_up {α : Type} {key : α → Int × Int} {x : α} : ∀ {l : List α}, UpK key l → (∀ y ∈ l, key x ≠ key y) → UpK key (insB key x l)
  | [], _, _ => List.pairwise_singleton _ _
  | y :: r, h, hx => by
    obtain ⟨h1, h2⟩ := List.pairwise_cons.mp h
    unfold insB
    split
    · rename_i hlt
      refine List.pairwise_cons.mpr ⟨fun z hz => ?_, h⟩
      rcases List.mem_cons.mp hz with rfl | hz
      · exact hlt
      · have a := SrtO.lexB_iff.mp hlt
        have b := SrtO.lexB_iff.mp (h1 z hz)
        refine SrtO.lexB_iff.mpr ?_
        omega
    · rename_i hlt
      refine List.pairwise_cons.mpr ⟨fun z hz => ?_, insB_up h2 fun z hz => hx z (List.mem_cons_of_mem _ hz)⟩
      rcases List.mem_cons.mp ((insB_perm key x r).mem_iff.mp hz) with rfl | hz
      · exact lexB_tri (hx y (List.mem_cons_self ..)) hlt
      · exact h1 z hz
theorem sortBy_up {α : Type} {key : α → Int × Int} : ∀ {l : List α}, (l.map key).Nodup → UpK key (sortBy key l)
  | [], _ => List.Pairwise.nil
  | x :: r, h => by
    rw [List.map_cons, List.nodup_cons] at h
    refine insB_up (sortBy_up h.2) fun y hy e => h.1 ?_
    rw [e]
    exact List.mem_map.mpr ⟨y, (sortBy_perm key r).mem_iff.mp hy, rfl⟩
theorem upK_same {α : Type} {key : α → Int × Int} : ∀ {l m : List α}, UpK key l → UpK key m → (∀ k, k ∈ l ↔ k ∈ m) → l = m
  | [], [], _, _, _ => rfl
  | [], y :: m, _, _, h => by have := (h y).mpr (List.mem_cons_self ..); cases this
  | x :: l, [], _, _, h => by have := (h x).mp (List.mem_cons_self ..); cases this
  | x :: l, y :: m, hl, hm, h => by
    obtain ⟨l1, l2⟩ := List.pairwise_cons.mp hl
    obtain ⟨m1, m2⟩ := List.pairwise_cons.mp hm
    have e : x = y := by
      rcases List.mem_cons.mp ((h x).mp (List.mem_cons_self ..)) with a | a
      · exact a
      · rcases List.mem_cons.mp ((h y).mpr (List.mem_cons_self ..)) with b | b
        · exact b.symm
        · have := SrtO.lexB_iff.mp (m1 x a)
          have := SrtO.lexB_iff.mp (l1 y b)
          omega
    subst e
    congr 1
    refine upK_same l2 m2 fun k => ?_
    constructor
    · intro hk
      rcases List.mem_cons.mp ((h k).mp (List.mem_cons_of_mem _ hk)) with a | a
      · subst a
        have := SrtO.lexB_iff.mp (l1 k hk)
        omega
      · exact a
    · intro hk
      rcases List.mem_cons.mp ((h k).mpr (List.mem_cons_of_mem _ hk)) with a | a
      · subst a
        have := SrtO.lexB_iff.mp (m1 k hk)
        omega
      · exact a
inductive All2 {α β : Type} (R : α → β → Prop) : List α → List β → Prop
  | nil : All2 R [] []
  | cons {a : α} {b : β} {l : List α} {m : List β} : R a b → All2 R l m → All2 R (a :: l) (b :: m)
theorem insB_par {α β : Type} {ka : α → Int × Int} {kb : β → Int × Int} {R : α → β → Prop} (hk : ∀ a b, R a b → ka a = kb b) {x : α} {y : β} (hx : R x y) : ∀ {l : List α} {m : List β}, All2 R l m → All2 R (insB ka x l) (insB kb y m)
  | _, _, .nil => .cons hx .nil
  | _, _, .cons (a := a) (b := b) h t => by
    have e : SrtO.lexB (ka x) (ka a) = SrtO.lexB (kb y) (kb b) := by rw [hk _ _ hx, hk _ _ h]
    unfold insB
    rw [e]
    split
    · exact .cons hx (.cons h t)
    · exact .cons h (insB_par hk hx t)
theorem sort_par {α β : Type} {ka : α → Int × Int} {kb : β → Int × Int} {R : α → β → Prop} (hk : ∀ a b, R a b → ka a = kb b) : ∀ {l : List α} {m : List β}, All2 R l m → All2 R (sortBy ka l) (sortBy kb m)
  | _, _, .nil => .nil
  | _, _, .cons h t => insB_par hk h (sort_par hk t)
/-! a tuple in the heap that begins with two ints -/
def keyHeap (h : Heap) (v : Value) : Int × Int := match v with
  | .ref a => match h.get? a with
    | some o => match o.data with
      | .seq xs _ => match xs.toList with
        | .int x _ :: .int y _ :: _ => (x, y)
        | _ => (0, 0)
      | _ => (0, 0)
    | none => (0, 0)
  | _ => (0, 0)
def LeadAt (h : Heap) (v : Value) (x y : Int) : Prop := ∃ a o t u n rest, v = .ref a ∧ h.get? a = some o ∧ o.cls = .type "tuple" ∧ o.data = .seq (Value.int x t :: Value.int y u :: rest).toArray n
theorem LeadAt.key {h : Heap} {v : Value} {x y : Int} (l : LeadAt h v x y) : keyHeap h v = (x, y) := by
  obtain ⟨a, o, t, u, n, rest, rfl, ho, hc, hd⟩ := l
  unfold keyHeap
  simp only [ho, hd]
theorem LeadAt.keeps {h h' : Heap} {v : Value} {x y : Int} (l : LeadAt h v x y) (k : ∀ b o, h.get? b = some o → o.cls = .type "tuple" → h'.get? b = some o) : LeadAt h' v x y := by
  obtain ⟨a, o, t, u, n, rest, e, ho, hc, hd⟩ := l
  exact ⟨a, o, t, u, n, rest, e, k _ _ ho hc, hc, hd⟩
section
variable {prog : Program} {w : World} {A : Around} {E : Value → Shared → Prop} {s : Shared}
theorem lex_self {b fin : Bool} {Q : Bool → Shared → Prop} (hq : Q fin s) : ∀ (l : List Value) (i : Nat), PySem.W.KatLex prog w A b fin Q (l.zip l) i s
  | [], i => PySem.W.kat_nil hq
  | v :: l, i => by
    rw [List.zip_cons_cons]
    exact PySem.W.kat_cons (SeqAt.EqAt.same v prog w _ _ (PySem.W.kat_yes (lex_self hq l (i + 1))))
theorem lead_cmp {vs : List Value} {k : Value → Int × Int} (hp : ∀ v ∈ vs, LeadAt s.heap v (k v).1 (k v).2) (inj : ∀ v ∈ vs, ∀ u ∈ vs, k v = k u → v = u) : SrtO.Cmp prog w A s (tuples' true) (fun p => p.1 ∈ vs) (SrtO.lt2 fun v u => SrtO.lexB (k v) (k u)) := by
  intro p q hm hm'
  have h1 := hp _ hm
  have h2 := hp _ hm'
  show wpAny (model prog w) A (keyLt' (tuples' true) p.1 q.1) (fun r z => z = s ∧ r = SrtO.lexB (k p.1) (k q.1)) (fun _ _ => False) s
  by_cases same : k p.1 = k q.1
  · have e0 : p.1 = q.1 := inj _ hm _ hm' same
    have no : SrtO.lexB (k p.1) (k q.1) = false := by
      rw [same]
      refine SrtO.lexB_no.mpr ?_
      omega
    rw [no, ← e0]
    obtain ⟨a, o, t, u, n, rest, e, ho, hc, hd⟩ := h1
    rw [e]
    refine PySem.W.kat_lt ho hd ho hd ?_
    have hz : decide ((Value.int (k p.1).1 t :: Value.int (k p.1).2 u :: rest).toArray.size < (Value.int (k p.1).1 t :: Value.int (k p.1).2 u :: rest).toArray.size) = false := decide_eq_false (Nat.lt_irrefl _)
    rw [hz]
    exact lex_self (s := s) ⟨rfl, rfl⟩ _ 0
  · generalize hk1 : k p.1 = kp at h1 same ⊢
    generalize hk2 : k q.1 = kq at h2 same ⊢
    obtain ⟨x, y⟩ := kp
    obtain ⟨x', y'⟩ := kq
    obtain ⟨a, o, t, u, n, rest, e, ho, hc, hd⟩ := h1
    obtain ⟨a', o', t', u', n', rest', e', ho', hc', hd'⟩ := h2
    rw [e, e']
    refine PySem.W.kat_lt ho hd ho' hd' ?_
    rw [List.zip_cons_cons, List.zip_cons_cons]
    refine PySem.W.kat_cons (SeqAt.EqAt.int_int x t x' t' prog w _ _ ?_)
    refine PySem.W.kat_go (fun e1 => ?_) (fun e1 => ?_)
    · have ex : x = x' := by simpa using e1
      refine PySem.W.kat_yes (PySem.W.kat_cons (SeqAt.EqAt.int_int y u y' u' prog w _ _ ?_))
      refine PySem.W.kat_go (fun e2 => ?_) (fun e2 => ?_)
      · have ey : y = y' := by simpa using e2
        exact absurd (by rw [ex, ey]) same
      · have e3 : SrtO.lexB (x, y) (x', y') = decide (y < y') := if_pos ex
        exact PySem.W.kat_no (PySem.W.kat_one _ _ (PyProof.Rows.lt_int ⟨rfl, e3.symm⟩))
    · have ex : ¬ x = x' := by simpa using e1
      have e3 : SrtO.lexB (x, y) (x', y') = decide (x < x') := if_neg ex
      exact PySem.W.kat_no (oneLt_int ⟨rfl, e3.symm⟩)
theorem lead_firsts {h : Heap} : ∀ {vs : List Value}, (∀ v ∈ vs, ∃ x y, LeadAt h v x y) → ∃ fs : List Value, PySem.W.KatTups h vs fs ∧ fs.length = vs.length ∧ ∀ f ∈ fs, ∃ x t, f = Value.int x t
  | [], _ => ⟨[], PySem.W.KatTups.nil, rfl, fun _ hm => by cases hm⟩
  | v :: vs, hp => by
    obtain ⟨fs, k1, k2, k3⟩ := lead_firsts (vs := vs) fun u hm => hp u (List.mem_cons_of_mem _ hm)
    obtain ⟨x, y, a, o, t, u, n, rest, e, ho, hc, hd⟩ := hp v (List.mem_cons_self ..)
    subst e
    refine ⟨.int x t :: fs, PySem.W.KatTups.cons ho hc hd rfl k1, congrArg (· + 1) k2, fun f hm => ?_⟩
    rcases List.mem_cons.mp hm with rfl | hm
    · exact ⟨x, t, rfl⟩
    · exact k3 f hm
theorem lead_sortable {a : Addr} {vs : List Value} {k : Value → Int × Int} (h0 : 0 < vs.length) (hp : ∀ v ∈ vs, LeadAt s.heap v (k v).1 (k v).2) (inj : ∀ v ∈ vs, ∀ u ∈ vs, k v = k u → v = u) (ha : ∀ o, s.heap.get? a = some o → o.cls ≠ .type "tuple") : SrtO.SortableO prog w A s a vs fun v u => SrtO.lexB (k v) (k u) := by
  intro h' keep
  have hp' : ∀ v ∈ vs, LeadAt h' v (k v).1 (k v).2 := fun v hm => (hp v hm).keeps fun b o e c => keep b o (fun z => by subst z; exact ha o e c) e
  obtain ⟨fs, f1, f2, f3⟩ := lead_firsts fun v hm => ⟨_, _, hp' v hm⟩
  refine ⟨tuples' true, fun Q E hq => ?_, lead_cmp hp' inj⟩
  refine PySem.W.kat_kind (T := .type "int") f1 (by omega) (fun f hm => ?_) (by rfl) ?_
  · obtain ⟨x, t, rfl⟩ := f3 f hm
    exact PySem.W.Looks.now
  · have other : (Value.type "int" != Value.type "tuple") = true := by first | decide +kernel | rfl | decide
    rw [other]
    exact hq
end
/-- sorted(xs): the keys with their tuples -/
def rSortLead (K : PySem.W.Frag) : List V → Hp → VK → Prop := fun vs H Q => ∃ (a : Addr) (zs : List ((Int × Int) × V)), vs = [V.ref a] ∧ SqL K H a (zs.map (·.2)) ∧ (zs.map (·.1)).Nodup ∧
  (∀ z ∈ zs, ∃ t r, z.2 = .ref t ∧ SqT K H t (.int z.1.1 :: .int z.1.2 :: r)) ∧ ∀ p, H p = none → Q (.ref p) (upd H p (.lst ((sortBy (·.1) zs).map (·.2))))
section
variable {X : Cx}
theorem all2_vals {α : Type} {f : α → V} {R : α → Value → Prop} (hR : ∀ a u, R a u → RelV (f a) u) : ∀ {l : List α} {m : List Value}, All2 R l m → Vals (l.map f) m
  | _, _, .nil => .nil
  | _, _, .cons h t => .cons (hR _ _ h) (all2_vals hR t)
theorem cr_sortLead : CallR X (.builtin "sorted") (rSortLead X.K) := by
  intro pins s σ H vs us Q I r h
  obtain ⟨a, zs, rfl, hs, nd, hz, q⟩ := h
  obtain ⟨its, rv, hl, hfew⟩ := I.list hs
  obtain ⟨u, rfl, ru⟩ := vals1 r
  obtain rfl : u = Value.ref a := ru
  have each : ∀ {zs : List ((Int × Int) × V)} {its : List Value}, Vals (zs.map (·.2)) its → (∀ z ∈ zs, ∃ t r, z.2 = .ref t ∧ SqT X.K H t (.int z.1.1 :: .int z.1.2 :: r)) → All2 (fun z u => RelV z.2 u ∧ LeadAt s.heap u z.1.1 z.1.2) zs its := by
    intro zs
    induction zs with
    | nil =>
      intro its rv _
      cases rv
      exact .nil
    | cons z zs ih =>
      intro its rv hz
      cases rv with
      | cons r1 r2 =>
        refine .cons ⟨r1, ?_⟩ (ih r2 fun y hy => hz y (List.mem_cons_of_mem _ hy))
        obtain ⟨t, r, e, ht⟩ := hz z (List.mem_cons_self ..)
        have r1' : RelV (V.ref t) _ := e ▸ (show RelV z.2 _ from r1)
        obtain rfl := (show _ = Value.ref t from r1')
        obtain ⟨its2, rv2, ⟨o, ho, hc, n, hd⟩, _⟩ := I.tuple ht
        cases rv2 with
        | cons p1 p2 =>
          cases p2 with
          | cons p2 p3 =>
            obtain ⟨t1, rfl⟩ := p1
            obtain ⟨t2, rfl⟩ := p2
            exact ⟨t, o, t1, t2, n, _, rfl, ho, hc, hd⟩
  have all := each rv hz
  have all2 : All2 (fun z u => RelV z.2 u ∧ LeadAt s.heap u (keyHeap s.heap u).1 (keyHeap s.heap u).2 ∧ z.1 = keyHeap s.heap u) zs its := by
    have go : ∀ {zs : List ((Int × Int) × V)} {its : List Value}, All2 (fun z u => RelV z.2 u ∧ LeadAt s.heap u z.1.1 z.1.2) zs its → All2 (fun z u => RelV z.2 u ∧ LeadAt s.heap u (keyHeap s.heap u).1 (keyHeap s.heap u).2 ∧ z.1 = keyHeap s.heap u) zs its := by
      intro zs its h
      induction h with
      | nil => exact .nil
      | cons h _ ih =>
        have e := h.2.key
        exact .cons ⟨h.1, by rw [e]; exact h.2, by rw [e]⟩ ih
    exact go all
  have mem : ∀ {zs : List ((Int × Int) × V)} {its : List Value}, All2 (fun z u => RelV z.2 u ∧ LeadAt s.heap u (keyHeap s.heap u).1 (keyHeap s.heap u).2 ∧ z.1 = keyHeap s.heap u) zs its → (∀ u ∈ its, LeadAt s.heap u (keyHeap s.heap u).1 (keyHeap s.heap u).2) ∧ its.map (keyHeap s.heap) = zs.map (·.1) := by
    intro zs its h
    induction h with
    | nil => exact ⟨fun _ z => (by cases z), rfl⟩
    | cons h _ ih =>
      refine ⟨fun u hu => ?_, by rw [List.map_cons, List.map_cons, ih.2, h.2.2]⟩
      rcases List.mem_cons.mp hu with rfl | hu
      · exact h.2.1
      · exact ih.1 u hu
  obtain ⟨lead, keys⟩ := mem all2
  have nd2 : (its.map (keyHeap s.heap)).Nodup := by rw [keys]; exact nd
  have inj : ∀ v ∈ its, ∀ u ∈ its, keyHeap s.heap v = keyHeap s.heap u → v = u := by
    have go : ∀ {l : List Value}, (l.map (keyHeap s.heap)).Nodup → ∀ v ∈ l, ∀ u ∈ l, keyHeap s.heap v = keyHeap s.heap u → v = u := by
      intro l
      induction l with
      | nil => exact fun _ v hv => by cases hv
      | cons x l ih =>
        intro n v hv u hu e
        rw [List.map_cons, List.nodup_cons] at n
        rcases List.mem_cons.mp hv with h1 | h1
        · rcases List.mem_cons.mp hu with h2 | h2
          · rw [h1, h2]
          · exact absurd (List.mem_map.mpr ⟨u, h2, by rw [← e, h1]⟩) n.1
        · rcases List.mem_cons.mp hu with h2 | h2
          · exact absurd (List.mem_map.mpr ⟨v, h1, by rw [e, h2]⟩) n.1
          · exact ih n.2 v h1 u h2 e
    exact go nd2
  refine SrtO.sorted_ord (SrtO.swo_lex (keyHeap s.heap)) hl.isList (by rw [← rv.length]; exact hfew) (fun h2 h₁ b hb kk => ?_) fun out srt stb => ?_
  · refine lead_sortable (s := { s with heap := h₁ }) (by omega) (fun v hm => (lead v hm).keeps fun b o e _ => (kk b o e).2) inj fun o e c => ?_
    have e2 : some o = some (seqObj "list" its.toArray 0) := e.symm.trans hb
    cases e2
    exact absurd (Value.type.inj c) (by decide)
  · have nd3 : (out.map (keyHeap s.heap)).Nodup := (stb.perm.map _).nodup_iff.mpr nd2
    have up : UpK (keyHeap s.heap) out := by
      have go : ∀ {l : List Value}, SrtO.Srtd (fun v u => SrtO.lexB (keyHeap s.heap v) (keyHeap s.heap u)) l → (l.map (keyHeap s.heap)).Nodup → UpK (keyHeap s.heap) l := by
        intro l
        induction l with
        | nil => exact fun _ _ => List.Pairwise.nil
        | cons x l ih =>
          intro hs n
          obtain ⟨h1, h2⟩ := List.pairwise_cons.mp hs
          rw [List.map_cons, List.nodup_cons] at n
          refine List.pairwise_cons.mpr ⟨fun y hy => ?_, ih h2 n.2⟩
          have ne : keyHeap s.heap y ≠ keyHeap s.heap x := fun e => n.1 (List.mem_map.mpr ⟨y, hy, e⟩)
          exact lexB_tri ne fun z => Bool.false_ne_true ((h1 y hy).symm.trans z)
      exact go srt nd3
    have same : out = sortBy (keyHeap s.heap) its := upK_same up (sortBy_up nd2) fun k => by rw [stb.perm.mem_iff, (sortBy_perm _ _).mem_iff]
    have par := sort_par (ka := fun z : (Int × Int) × V => z.1) (kb := keyHeap s.heap) (fun _ _ h => h.2.2) all2
    rw [← same] at par
    have vals : Vals ((sortBy (·.1) zs).map (·.2)) out := all2_vals (fun _ _ h => h.1) par
    obtain ⟨ep, he⟩ := PyProof.Rows.sortedAll_at s.heap its out.toArray
    refine ⟨.ref _, upd H (s.heap.objs.size + 1) (.lst ((sortBy (·.1) zs).map (·.2))), I.laid (t' := s.toks) (fun _ _ => PyProof.Rows.sortedAll_old) (Nat.le_succ _) ⟨?_, out, ep, vals, he⟩, rfl, q _ (I.hok.fresh (Nat.le_succ _))⟩
    rw [List.length_map, sortBy_len]
    rw [List.length_map] at hfew
    exact hfew
end
def keyD : D → Int × Int
  | .tup (.int a :: .int b :: _) => (a, b)
  | _ => (0, 0)
def leadD : D → Bool
  | .tup (.int _ :: .int _ :: _) => true
  | _ => false
def sortedD : List D → R D
  | [.lst ds] => if ds.all leadD = true ∧ (ds.map keyD).Nodup then .ok (.lst (sortBy keyD ds)) else .bad
  | _ => .bad
theorem sortedD_nx (a : List D) (y : Ex) (l : Lc) : sortedD a ≠ .exc y l := by
  unfold sortedD
  split <;> (try split) <;> simp
theorem all2_isDs {k : Kx} {H : Hp} {M : Addr → Prop} {α : Type} {f : α → V} {R : D → α → Prop} (hR : ∀ d a, R d a → IsD k H M d (f a)) : ∀ {l : List D} {m : List α}, All2 R l m → IsDs k H M l (m.map f)
  | _, _, .nil => rfl
  | _, _, .cons h t => ⟨_, _, rfl, hR _ _ h, all2_isDs hR t⟩
theorem lead_pairs {k : Kx} {H : Hp} {M : Addr → Prop} : ∀ {ds : List D} {vs : List V}, IsDs k H M ds vs → ds.all leadD = true → ∃ zs : List ((Int × Int) × V), zs.map (·.2) = vs ∧ zs.map (·.1) = ds.map keyD ∧ (∀ z ∈ zs, ∃ t r, z.2 = .ref t ∧ SqT k.K H t (.int z.1.1 :: .int z.1.2 :: r)) ∧ All2 (fun d z => IsD k H M d z.2 ∧ keyD d = z.1) ds zs
  | [], vs, h, _ => ⟨[], h.symm, rfl, fun z hz => (by cases hz), .nil⟩
  | d :: ds, vs, ⟨v, r, e, h1, h2⟩, hl => by
    rw [List.all_cons, Bool.and_eq_true] at hl
    obtain ⟨zs, e1, e2, e3, e4⟩ := lead_pairs h2 hl.2
    refine ⟨(keyD d, v) :: zs, by rw [e, List.map_cons, e1], by rw [List.map_cons, List.map_cons, e2], fun z hz => ?_, .cons ⟨h1, rfl⟩ e4⟩
    rcases List.mem_cons.mp hz with rfl | hz
    · match d, hl.1, h1 with
      | .tup (.int a :: .int b :: rest), _, ⟨t, ws, e5, h5, v1, r1, e6, i1, v2, r2, e7, i2, i3⟩ =>
        refine ⟨t, r2, e5, ?_⟩
        rw [show v1 = V.int a from i1] at e6
        rw [show v2 = V.int b from i2] at e7
        rw [e6, e7] at h5
        exact h5
    · exact e3 z hz
theorem cad_sortLead {C : Ct} : CaD C (rSortLead C.k.K) sortedD := by
  intro σ e H vs ds Q s i q
  unfold sortedD at q
  split at q
  · rename_i xs
    split at q
    · rename_i hz
      obtain ⟨v, rfl, h1⟩ := i.one
      obtain ⟨a, ws, rfl, h2, h3⟩ := h1
      obtain ⟨zs, e1, e2, e3, e4⟩ := lead_pairs h3 hz.1
      refine ⟨a, zs, rfl, .inl (.inl (by rw [e1]; exact h2)), by rw [e2]; exact hz.2, e3, fun p hp => ?_⟩
      exact q.lst s hp (all2_isDs (fun _ _ h => h.1) (sort_par (ka := keyD) (kb := fun z : (Int × Int) × V => z.1) (fun _ _ h => h.2) e4))
    · exact q.elim
  · exact q.elim
end Dn

namespace Dn
open PySem PySem.Spec PyProof.Rows L2
/-! ### max, min of a tuple of ints, too -/
theorem reads_ints {h : Heap} : ∀ {us : List Value} {ns : List Int}, IntsAre us ns → ∃ as, ReadsAll h us (ns.map PyData.int) as
  | _, _, .nil => ⟨_, .nil⟩
  | _, _, .cons n t r => by
    obtain ⟨as, ih⟩ := reads_ints r
    exact ⟨_, .cons (.int n t) ih⟩
theorem hold_ints {h : Heap} {us : List Value} {ns : List Int} (r : IntsAre us ns) : PySem.W.HoldAll h us ns := reads_ints r
theorem maxOf_int (n : Int) : ∀ ns : List Int, PySem.W.maxOf n ns = ns.foldl max n := fun ns => by
  unfold PySem.W.maxOf
  congr 1
  funext a y
  show (if decide (a < y) = true then y else a) = max a y
  by_cases h : a < y
  · rw [if_pos (decide_eq_true h)]
    omega
  · rw [if_neg (by simpa using h)]
    omega
theorem minOf_int (n : Int) : ∀ ns : List Int, PySem.W.minOf n ns = ns.foldl min n := fun ns => by
  unfold PySem.W.minOf
  congr 1
  funext a y
  show (if decide (y < a) = true then y else a) = min a y
  by_cases h : y < a
  · rw [if_pos (decide_eq_true h)]
    omega
  · rw [if_neg (by simpa using h)]
    omega
theorem holds_int {h : Heap} {v : Value} {n : Int} (H : PySem.W.Holds h v n) : ∃ t, v = .int n t := by
  obtain ⟨as, r⟩ := H
  have r' : Reads h v (.int n) as := r
  cases r' with
  | int _ t => exact ⟨t, rfl⟩
def rMaxT (K : PySem.W.Frag) : List V → Hp → VK → Prop := fun vs H Q => ∃ (a : Addr) (n : Int) (ns : List Int), vs = [V.ref a] ∧ SqT K H a ((n :: ns).map V.int) ∧ Q (.int (ns.foldl max n)) H
def rMinT (K : PySem.W.Frag) : List V → Hp → VK → Prop := fun vs H Q => ∃ (a : Addr) (n : Int) (ns : List Int), vs = [V.ref a] ∧ SqT K H a ((n :: ns).map V.int) ∧ Q (.int (ns.foldl min n)) H
section
variable {X : Cx} {lv : Nat}
theorem cr_maxT (hc : X.calm = true) (hr : RoomG lv X.A) : CallR X (.builtin "max") (rMaxT X.K) := by
  intro pins s σ H vs us Q I r h
  obtain ⟨a, n, ns, rfl, ht, q⟩ := h
  obtain ⟨its, rv, tp, _⟩ := I.tuple ht
  rw [Vals.ref1 r]
  have hu := hr.units
  refine PySem.W.max_tuple_datum (x := n) (xs := ns) (I.ok.hd hc) (show s.heap.IsTuple a its.toArray from tp) (hold_ints rv.ints) (by show X.A.units + 1 + 0 < cLine; omega) fun i v h' tk hv hh hk => ?_
  obtain ⟨t, rfl⟩ := holds_int hh
  exact ⟨.int _, H, I.kept hk, ⟨t, by rw [maxOf_int]⟩, q⟩
theorem cr_minT (hc : X.calm = true) (hr : RoomG lv X.A) : CallR X (.builtin "min") (rMinT X.K) := by
  intro pins s σ H vs us Q I r h
  obtain ⟨a, n, ns, rfl, ht, q⟩ := h
  obtain ⟨its, rv, tp, _⟩ := I.tuple ht
  rw [Vals.ref1 r]
  have hu := hr.units
  refine PySem.W.min_tuple_datum (x := n) (xs := ns) (I.ok.hd hc) (show s.heap.IsTuple a its.toArray from tp) (hold_ints rv.ints) (by show X.A.units + 1 + 0 < cLine; omega) fun i v h' tk hv hh hk => ?_
  obtain ⟨t, rfl⟩ := holds_int hh
  exact ⟨.int _, H, I.kept hk, ⟨t, by rw [minOf_int]⟩, q⟩
theorem call_maxXT (hc : X.calm = true) (hr : RoomG lv X.A) : CallR X (.builtin "max") (fun xs H Q => rMaxX X.K xs H Q ∨ rMaxT X.K xs H Q) := (call_maxX hc).or (cr_maxT hc hr)
theorem call_minXT (hc : X.calm = true) (hr : RoomG lv X.A) : CallR X (.builtin "min") (fun xs H Q => rMinX X.K xs H Q ∨ rMinT X.K xs H Q) := (call_minX hc).or (cr_minT hc hr)
end
def maxTD : List D → R D
  | [.tup ds] => match intsD ds with
    | some (n :: ns) => .ok (.int (ns.foldl max n))
    | _ => .bad
  | l => maxD l
def minTD : List D → R D
  | [.tup ds] => match intsD ds with
    | some (n :: ns) => .ok (.int (ns.foldl min n))
    | _ => .bad
  | l => minD l
theorem maxTD_nx (a : List D) (y : Ex) (l : Lc) : maxTD a ≠ .exc y l := by
  unfold maxTD
  split
  · split <;> simp
  · exact maxD_nx _ _ _
theorem minTD_nx (a : List D) (y : Ex) (l : Lc) : minTD a ≠ .exc y l := by
  unfold minTD
  split
  · split <;> simp
  · exact minD_nx _ _ _
theorem cad_maxT {C : Ct} : CaD C (fun xs H Q => rMaxX C.k.K xs H Q ∨ rMaxT C.k.K xs H Q) maxTD := by
  intro σ e H vs ds Q s i q
  unfold maxTD at q
  split at q
  · split at q
    · rename_i n ns e1
      obtain ⟨v, rfl, a, ws, rfl, h1, h2⟩ := i.one
      rw [ints_of h2 e1] at h1
      exact .inr ⟨a, n, ns, rfl, h1, q.val rfl⟩
    · exact q.elim
  · exact .inl (cad_max σ e H vs _ Q s i q)
theorem cad_minT {C : Ct} : CaD C (fun xs H Q => rMinX C.k.K xs H Q ∨ rMinT C.k.K xs H Q) minTD := by
  intro σ e H vs ds Q s i q
  unfold minTD at q
  split at q
  · split at q
    · rename_i n ns e1
      obtain ⟨v, rfl, a, ws, rfl, h1, h2⟩ := i.one
      rw [ints_of h2 e1] at h1
      exact .inr ⟨a, n, ns, rfl, h1, q.val rfl⟩
    · exact q.elim
  · exact .inl (cad_min σ e H vs _ Q s i q)
/-! ### a if c else b, as a test -/
section
variable {X : Cx} {C : Ct} {a b c : Expr} {pos : Pos} {tA tB tC : TT}
def tIfT (t ta tb : TT) : TT := fun σ H Q => t σ H fun k H1 => if k = true then ta σ H1 Q else tb σ H1 Q
theorem pt_ifx (hc : PT X c tC) (ha : PT X a tA) (hb : PT X b tB) : PT X (.IfExp c a b pos) (tIfT tC tA tB) := by
  refine ⟨fun pins s σ H Q I h => ?_⟩
  show wpAny (model X.prog X.w) X.A (do if ← isTrue c X.env (eval c X.env) then isTrue a X.env (eval a X.env) else isTrue b X.env (eval b X.env)) (TP X pins σ Q) X.xe s
  refine wpAny_bind (thn (hc.run pins s σ H _ I h) fun d s1 ⟨H1, I1, q1⟩ => ?_)
  cases d with
  | true => exact ha.run pins s1 σ H1 Q I1 q1
  | false => exact hb.run pins s1 σ H1 Q I1 q1
def ifT (t f g : MD Bool) : MD Bool := fun e => (t e).bind fun p => match p.1 with
  | true => f p.2
  | false => g p.2
theorem jt_ifx {t f g : MD Bool} (hc : PT X c (tT C t)) (ha : PT X a (tT C f)) (hb : PT X b (tT C g)) : PT X (.IfExp c a b pos) (tT C (ifT t f g)) := by
  refine PT.imp (pt_ifx hc ha hb) fun σ H Q ⟨e, s, o⟩ => ⟨e, s, (Out.bind o).imp (fun p hp => ?_) fun _ _ z => z⟩
  obtain ⟨k, e1⟩ := p
  intro H1 x1 s1
  cases k with
  | true =>
    have hp2 : Out (fun p : Bool × Lc => ∀ H1, Ext (OW C σ) H H1 → SR C p.2 σ H1 → Q p.1 H1) (XO C σ H) (f e1) := hp
    rw [if_pos rfl]
    exact ⟨e1, s1, hp2.imp (fun q hq H2 x2 s2 => hq H2 (x1.trans x2) s2) fun _ _ z => z.ext x1⟩
  | false =>
    have hp2 : Out (fun p : Bool × Lc => ∀ H1, Ext (OW C σ) H H1 → SR C p.2 σ H1 → Q p.1 H1) (XO C σ H) (g e1) := hp
    rw [if_neg Bool.false_ne_true]
    exact ⟨e1, s1, hp2.imp (fun q hq H2 x2 s2 => hq H2 (x1.trans x2) s2) fun _ _ z => z.ext x1⟩
end
end Dn

namespace Dn
open PySem PySem.Spec PyProof.Rows L2

/-! ### a dict of one's own: new by a comprehension, d[k] = v, walked by its keys -/
def keyOf : D → Option Key
  | .int i => some (.inl i)
  | .str x => some (.inr x)
  | _ => none
theorem keyOf_isD {k : Kx} {H : Hp} {M : Addr → Prop} {d : D} {key : Key} {v : V} (e : keyOf d = some key) (h : IsD k H M d v) : v = kV key := by
  cases d <;> simp [keyOf] at e <;> subst e <;> exact h
def keyV : Key → D
  | .inl i => .int i
  | .inr x => .str x
theorem keyV_isD {k : Kx} {H : Hp} {M : Addr → Prop} : ∀ (key : Key), IsD k H M (keyV key) (kV key)
  | .inl _ => rfl
  | .inr _ => rfl
def putP (p : List Key × List D) (k : Key) (d : D) : List Key × List D :=
  if (p.1.any fun k' => decide (k' = k)) = true then (p.1, List.zipWith (fun k' d' => if k' = k then d else d') p.1 p.2) else (p.1 ++ [k], p.2 ++ [d])
theorem putP_keys {k : Kx} {H : Hp} {M : Addr → Prop} {key : Key} {d : D} {v : V} (iv : IsD k H M d v) : ∀ (kvs : List (Key × V)) (ds : List D), IsDs k H M ds (kvs.map (·.2)) →
    IsDs k H M (List.zipWith (fun k' d' => if k' = key then d else d') (kvs.map (·.1)) ds) ((kvs.map fun kv => if kv.1 = key then (kv.1, v) else kv).map (·.2))
  | [], ds, h => by
    simp only [List.map_nil, List.zipWith_nil_left]
    rfl
  | p :: r, [], h => by
    have h' : (p :: r).map (·.2) = [] := h
    simp at h'
  | p :: r, d0 :: ds, ⟨v0, r0, e, h1, h2⟩ => by
    rw [List.map_cons] at e
    injection e with e1 e2
    subst e1 e2
    rw [List.map_cons, List.zipWith_cons_cons, List.map_cons, List.map_cons]
    refine .cons ?_ (putP_keys iv r ds h2)
    by_cases hk : p.1 = key
    · rw [if_pos hk, if_pos hk]
      exact iv
    · rw [if_neg hk, if_neg hk]
      exact h1
theorem putP_ok {k : Kx} {H : Hp} {M : Addr → Prop} {key : Key} {d : D} {v : V} {kvs : List (Key × V)} {p : List Key × List D} (iv : IsD k H M d v) (e : kvs.map (·.1) = p.1) (h : IsDs k H M p.2 (kvs.map (·.2))) :
    (putK kvs key v).map (·.1) = (putP p key d).1 ∧ IsDs k H M (putP p key d).2 ((putK kvs key v).map (·.2)) := by
  have ea : (kvs.any fun kv => decide (kv.1 = key)) = (p.1.any fun k' => decide (k' = key)) := by
    rw [← e, List.any_map]
    rfl
  unfold putK putP
  rw [ea]
  by_cases hk : (p.1.any fun k' => decide (k' = key)) = true
  · rw [if_pos hk, if_pos hk]
    refine ⟨?_, ?_⟩
    · rw [List.map_map, ← e]
      refine List.map_congr_left fun kv _ => ?_
      show (if kv.1 = key then (kv.1, v) else kv).1 = kv.1
      split <;> rfl
    · have := putP_keys (key := key) iv kvs p.2 h
      rw [e] at this
      exact this
  · rw [if_neg hk, if_neg hk]
    refine ⟨?_, ?_⟩
    · rw [List.map_append, e]
      rfl
    · rw [List.map_append]
      exact h.app (.cons iv .nil)
theorem putP_mem {p : List Key × List D} {k : Key} {d : D} {k' : Key} : k' ∈ (putP p k d).1 ↔ k' ∈ p.1 ∨ k' = k := by
  unfold putP
  by_cases hk : (p.1.any fun k' => decide (k' = k)) = true
  · rw [if_pos hk]
    refine ⟨.inl, fun h => h.elim id fun h => ?_⟩
    subst h
    obtain ⟨x, hx, e⟩ := List.any_eq_true.mp hk
    rw [← of_decide_eq_true e]
    exact hx
  · rw [if_neg hk, List.mem_append, List.mem_singleton]
theorem putP_len {p : List Key × List D} {k : Key} {d : D} : (putP p k d).1.length ≤ p.1.length + 1 := by
  unfold putP
  split
  · exact Nat.le_succ _
  · rw [List.length_append]
    exact Nat.le_refl _

/-! ### {k: v for target in iter if ..} -/
def PFd (C : Ct) (σ : L2.St) (H : Hp) (Q : VK) : (List Key × List D) × Lc → Prop := fun p => ∀ kvs H' q, Ext (OW C σ) H H' → SR C p.2 σ H' → kvs.map (·.1) = p.1.1 → IsDs C.k H' (MO C σ) p.1.2 (kvs.map (·.2)) → H' q = none → Q (.ref q) (upd H' q (.dK kvs))
def tFd (C : Ct) (f : Lc → R ((List Key × List D) × Lc)) : TE := fun σ H Q => ∃ e, SR C e σ H ∧ Out (PFd C σ H Q) (XO C σ H) (f e)
def dcS (vs : List Nat) (g : GD) (t : MD Bool) (ek ev : MD D) : List D → (List Key × List D) → Lc → R ((List Key × List D) × Lc)
  | [], a, e => .ok (a, e)
  | d :: ds, a, e => (noX (g d e)).bind fun e1 => (noX (t e1)).bind fun p => match p.1 with
    | true => (noX (ek p.2)).bind fun q => (noX (ev q.2)).bind fun r => match keyOf q.1 with
      | some k => dcS vs g t ek ev ds (putP a k r.1) (wipeL r.2 vs)
      | none => .bad
    | false => dcS vs g t ek ev ds a (wipeL p.2 vs)
def dcM (vs : List Nat) (f : MD (List D)) (g : GD) (t : MD Bool) (ek ev : MD D) : Lc → R ((List Key × List D) × Lc) := fun e => (f e).bind fun p => if p.1.length ≤ sizeLine then (dcS vs g t ek ev p.1 ([], []) (wipeL p.2 vs)).bind fun q => .ok (q.1, keepL p.2 q.2 vs) else .bad
theorem dcS_nx {vs : List Nat} {g : GD} {t : MD Bool} {ek ev : MD D} : ∀ (ds : List D) (a : List Key × List D) (e : Lc) (x : Ex) (l : Lc), dcS vs g t ek ev ds a e ≠ .exc x l
  | [], a, e, x, l => by simp [dcS]
  | d :: ds, a, e, x, l => by
    unfold dcS
    cases e1 : noX (g d e) with
    | bad => simp
    | exc x' l' => exact absurd e1 (noX_nx _ _ _)
    | ok e2 =>
      dsimp only [R.bind_ok]
      cases e3 : noX (t e2) with
      | bad => simp
      | exc x' l' => exact absurd e3 (noX_nx _ _ _)
      | ok p =>
        dsimp only [R.bind_ok]
        split
        · cases e4 : noX (ek p.2) with
          | bad => simp
          | exc x' l' => exact absurd e4 (noX_nx _ _ _)
          | ok q =>
            dsimp only [R.bind_ok]
            cases e5 : noX (ev q.2) with
            | bad => simp
            | exc x' l' => exact absurd e5 (noX_nx _ _ _)
            | ok r' =>
              dsimp only [R.bind_ok]
              split
              · exact dcS_nx ds _ _ _ _
              · simp
        · exact dcS_nx ds _ _ _ _
section
variable {C : Ct} {vs : List Nat}
theorem SR.outD {e e' : Lc} {σ : L2.St} {H H' : Hp} {q : Addr} {o : HO} (nf : ¬ Fx o) (hv : OkVs C vs) (s : SR C e σ H) (hq : H q = none) (s' : SR (C.b fun a => C.M a ∨ a = q) e' (L2.wipe σ vs) H') (hq' : H' q = some o) (x : ∀ a u, H a = some u → (¬ OW C σ a ∨ Fx u) → H' a = some u) :
    SR C (keepL e e' vs) σ (Dn.era H' q) ∧ Ext (OW C σ) H (Dn.era H' q) := by
  have hv' : OkVs (C.b fun a => C.M a ∨ a = q) vs := hv
  have out : ∀ {i : Nat}, i ∈ C.own → i ∉ vs := fun hi z => (hv _ z).1 hi
  have le : e'.length = e.length := by rw [s'.len, wipe_length, s.len]
  have moq : ∀ a, MO C σ a → MO (C.b fun a => C.M a ∨ a = q) (L2.wipe σ vs) a := fun a z => by
    rw [MO_wipe hv']
    rcases z with z | z
    · exact .inl (.inl z)
    · exact .inr z
  have mq : MO (C.b fun a => C.M a ∨ a = q) (L2.wipe σ vs) q := .inl (.inr rfl)
  have x' : Ext (OW C σ) H (Dn.era H' q) := fun a u h n => by
    have ha : a ≠ q := ne_of_none h hq
    rw [era_ne ha]
    exact x a u h n
  refine ⟨⟨by rw [keepL_len, le, s.len], fun i d hi he => ?_, fun i d hi he => ?_, s.dist, s.fr, fun a u h n => ?_, fun a h => ?_, s.nm, fun i a hi h => ?_, s.p0, fun a h => ?_⟩, x'⟩
  · rw [keepL_get] at he
    by_cases h : i ∈ vs
    · rw [if_pos h] at he
      have he2 : e[i]? = some (some d) := by
        split at he
        · rename_i hl
          rw [le] at hl
          have z : e.getD i none = some d := Option.some.inj he
          rw [List.getD_eq_getElem?_getD, List.getElem?_eq_getElem hl] at z
          rw [List.getElem?_eq_getElem hl]
          exact congrArg some z
        · cases he
      obtain ⟨v, h1, h2⟩ := s.val i d hi he2
      exact ⟨v, h1, IsD.step x'.mo (fun _ z => .inl z) _ _ h2⟩
    · rw [if_neg h] at he
      obtain ⟨v, h1, h2⟩ := s'.val i d hi he
      rw [wipe_get h] at h1
      exact ⟨v, h1, IsD.era hq' nf mq moq _ _ h2⟩
  · rw [keepL_get, if_neg (out hi)] at he
    obtain ⟨a, h1, h2⟩ := s'.ow i d hi he
    rw [wipe_get (out hi)] at h1
    obtain ⟨u, hu⟩ := s.alo i a hi h1
    have ha : a ≠ q := ne_of_none hu hq
    refine ⟨a, h1, ?_⟩
    cases d with
    | lst ds =>
      obtain ⟨ys, h3, h4⟩ := h2
      exact ⟨ys, by rw [era_ne ha]; exact h3, IsDs.era hq' nf mq moq _ _ h4⟩
    | dct ks ds =>
      obtain ⟨ys, h3, h4, h5⟩ := h2
      exact ⟨ys, by rw [era_ne ha]; exact h3, h4, IsDs.era hq' nf mq moq _ _ h5⟩
    | _ => exact h2.elim
  · have h1 := s'.ext a u h n
    have ha : a ≠ q := fun z => by
      have h2 : H a = some u ∨ C.par = some a := by
        by_cases hp : C.par = some a
        · exact .inr hp
        · exact .inl (s.ext a u h (.inl hp))
      rcases h2 with h2 | h2
      · rw [z, hq] at h2
        cases h2
      · obtain ⟨u2, h3⟩ := s.pm a h2
        rw [z, hq] at h3
        cases h3
    rw [era_ne ha]
    exact h1
  · obtain ⟨u, hu⟩ := s.al a h
    have ha : a ≠ q := ne_of_none hu hq
    rw [era_ne ha]
    exact s'.al a (.inl h)
  · obtain ⟨u, hu⟩ := s.alo i a hi h
    have ha : a ≠ q := ne_of_none hu hq
    rw [era_ne ha]
    exact s'.alo i a hi (by rw [wipe_get (out hi)]; exact h)
  · obtain ⟨u, hu⟩ := s.pm a h
    have ha : a ≠ q := ne_of_none hu hq
    rw [era_ne ha]
    exact s'.pm a h
/-- within the block: the new dict at q -/
structure DcP (C : Ct) (σ : L2.St) (q : Addr) (H1 : Hp) (e' : Lc) (acc : List Key × List D) (τ : L2.St) (H' : Hp) : Prop where
  dct : ∃ kvs, H' q = some (.dK kvs) ∧ kvs.map (·.1) = acc.1 ∧ IsDs C.k H' (MO (C.b fun a => C.M a ∨ a = q) τ) acc.2 (kvs.map (·.2))
  ext : ∀ a u, H1 a = some u → (¬ OW C σ a ∨ Fx u) → H' a = some u
  sr : SR (C.b fun a => C.M a ∨ a = q) e' τ H'
  ow : OW (C.b fun a => C.M a ∨ a = q) τ = OW C σ
variable {σ τ τ' : L2.St} {q : Addr} {H1 H H' : Hp} {e e' : Lc} {acc : List Key × List D}
theorem DcP.mo (p : DcP C σ q H1 e acc τ H) (ho : OW (C.b fun a => C.M a ∨ a = q) τ' = OW C σ) : MO (C.b fun a => C.M a ∨ a = q) τ' = MO (C.b fun a => C.M a ∨ a = q) τ := MO_of (ho.trans p.ow.symm)
theorem DcP.nq (p : DcP C σ q H1 e acc τ H) (hqp : C.par ≠ some q) : ¬ OW (C.b fun a => C.M a ∨ a = q) τ q := fun ⟨j, hj, z⟩ => by
  rcases p.sr.nm j q hj z with y | y
  · exact y (.inr rfl)
  · exact hqp y
theorem DcP.step (p : DcP C σ q H1 e acc τ H) (hqp : C.par ≠ some q) (x : Ext (OW (C.b fun a => C.M a ∨ a = q) τ) H H') (s : SR (C.b fun a => C.M a ∨ a = q) e' τ H') : DcP C σ q H1 e' acc τ H' := by
  obtain ⟨kvs, h1, hk, h2⟩ := p.dct
  refine ⟨⟨kvs, x q _ h1 (.inl (p.nq hqp)), hk, IsDs.step x.mo (fun _ z => .inl z) _ _ h2⟩, fun a u z n => x a u (p.ext a u z n) (n.imp (fun n z2 => by
    rw [p.ow] at z2
    exact n z2) id), s, p.ow⟩
theorem DcP.same (p : DcP C σ q H1 e acc τ H) (hqp : C.par ≠ some q) (k : Same H H') : DcP C σ q H1 e acc τ H' := p.step hqp (same_ext k) (p.sr.same k)
theorem DcP.re (p : DcP C σ q H1 e acc τ H) (s : SR (C.b fun a => C.M a ∨ a = q) e' τ' H) (ho : OW (C.b fun a => C.M a ∨ a = q) τ' = OW C σ) : DcP C σ q H1 e' acc τ' H := by
  obtain ⟨kvs, h1, hk, h2⟩ := p.dct
  exact ⟨⟨kvs, h1, hk, by rw [p.mo ho]; exact h2⟩, p.ext, s, ho⟩
theorem DcP.put (p : DcP C σ q H1 e acc τ H) (hqp : C.par ≠ some q) (h0q : C.H0 q = none) (hq : H1 q = none) {key : Key} {d : D} {y : V} (i : IsD C.k H (MO (C.b fun a => C.M a ∨ a = q) τ) d y) :
    ∃ kvs, H q = some (.dK kvs) ∧ kvs.length = acc.1.length ∧ DcP C σ q H1 e (putP acc key d) τ (upd H q (.dK (putK kvs key y))) := by
  obtain ⟨kvs, h1, hk, h2⟩ := p.dct
  have mq : MO (C.b fun a => C.M a ∨ a = q) τ q := .inl (.inr rfl)
  have wr : Ext (MO (C.b fun a => C.M a ∨ a = q) τ) H (upd H q (.dK (putK kvs key y))) := extWr mq h1 fun z => z
  obtain ⟨k1, k2⟩ := putP_ok (key := key) i hk h2
  refine ⟨kvs, h1, by rw [← hk, List.length_map], ⟨putK kvs key y, upd_same, k1, IsDs.step wr (fun _ z => .inl z) _ _ k2⟩, fun a u z n => ?_, p.sr.wrM (.inr rfl) h1 (fun z => z) h0q hqp, p.ow⟩
  rw [upd_ne (ne_of_none z hq)]
  exact p.ext a u z n
variable {Q : VK} {f : MD (List D)} {g : GD} {t : MD Bool} {ek ev : MD D}
theorem dc_go (hv : OkVs C vs) (h : tFd C (dcM vs f g t ek ev) σ H Q) :
    tDc (tI C f) (fun v σ H Q => ∃ M', tGv (C.b M') vs g v σ H Q) (fun σ H Q => ∃ M', tT (C.b M') t σ H Q) (fun σ H Q => ∃ M', tE (C.b M') ek σ H Q) (fun σ H Q => ∃ M', tE (C.b M') ev σ H Q) vs σ H Q := by
  obtain ⟨e, s, o⟩ := h
  refine ⟨e, s, (Out.bind o).imp (fun p hp => ?_) fun _ _ z => z⟩
  obtain ⟨ds, e1⟩ := p
  intro J H1 x1 s1 it q hq
  dsimp only at hp s1 it
  by_cases hz : ds.length ≤ sizeLine
  · rw [if_pos hz] at hp
    have hvb : ∀ M', OkVs (C.b M') vs := fun _ => hv
    have hp2 : Out (fun r => PFd C σ H Q (r.1, keepL e1 r.2 vs)) (fun _ _ => False) (dcS vs g t ek ev ds ([], []) (wipeL e1 vs)) := (Out.any (Out.bind hp) (dcS_nx _ _ _)).imp (fun r z => z) fun _ _ z => z
    clear hp
    have q0 : C.H0 q = none := by
      cases z : C.H0 q with
      | none => rfl
      | some u =>
        by_cases hpq : C.par = some q
        · obtain ⟨u2, h2⟩ := s1.pm q hpq
          rw [hq] at h2
          cases h2
        · have := s1.ext q u z (.inl hpq)
          rw [hq] at this
          cases this
    have qp : C.par ≠ some q := fun z => by
      obtain ⟨u2, h2⟩ := s1.pm q z
      rw [hq] at h2
      cases h2
    have oww : OW (C.b fun a => C.M a ∨ a = q) (L2.wipe σ vs) = OW C σ := OW_wipe (hvb _)
    have p0 : DcP C σ q H1 (wipeL e1 vs) ([], []) (L2.wipe σ vs) (upd H1 q (.dK [])) := ⟨⟨[], upd_same, rfl, rfl⟩, fun a u z _ => by rw [upd_ne (ne_of_none z hq)]; exact z, (s1.into hq).wipe (hvb _), oww⟩
    let Nx : Nat → Hp → Prop := fun i H' => ∃ acc e', DcP C σ q H1 e' acc (L2.wipe σ vs) H' ∧ acc.1.length ≤ i ∧ Out (fun r => PFd C σ H Q (r.1, keepL e1 r.2 vs)) (fun _ _ => False) (dcS vs g t ek ev (ds.drop i) acc e')
    refine ⟨fun i m H' => m = ds.length - i ∧ i ≤ ds.length ∧ Nx i H', ⟨ds.length, rfl, Nat.zero_le _, ([], []), wipeL e1 vs, p0, Nat.zero_le _, hp2⟩, ?_⟩
    rintro i m H2 ⟨rfl, hi, acc, e2, p2, hac, o2⟩
    have xx : Ext (OW C σ) H1 H2 := p2.ext
    by_cases hlt : i < ds.length
    · have hd : ds[i]? = some ds[i] := List.getElem?_eq_getElem hlt
      rw [List.drop_eq_getElem_cons hlt] at o2
      refine .inr ⟨it.go H2 i _ xx.mo hd, Nx (i + 1), fun H' h => ⟨_, by omega, rfl, hlt, h⟩, fun x H3 hy => ?_⟩
      obtain ⟨k3, i3⟩ := it.yld H2 (MO (C.b fun a => C.M a ∨ a = q) (L2.wipe σ vs)) i _ x H3 xx.mo (fun a z => by
        rcases z with (z | z) | z
        · exact .inl (.inl z)
        · exact .inr (by rw [z]; exact hq)
        · rw [oww] at z
          exact .inl (.inr z)) hd hy
      have p3 := p2.same qp k3
      refine ⟨_, e2, ds[i], p3.sr, i3, ?_⟩
      have o3 := noX_bind (E' := fun _ _ => False) (show Out _ _ ((noX (g ds[i] e2)).bind _) from o2)
      refine o3.imp (fun e3 o4 => ?_) fun _ _ z => z
      intro σ4 m4 w4 s4
      rw [wipe_sub vs fun _ z => z] at w4
      have ow4 : OW (C.b fun a => C.M a ∨ a = q) σ4 = OW C σ := m4.trans oww
      have p4 : DcP C σ q H1 e3 acc σ4 H3 := p3.re s4 ow4
      refine ⟨w4, _, e3, s4, ?_⟩
      refine (noX_bind o4).imp (fun pt o5 => ?_) fun _ _ z => z
      obtain ⟨b, e5⟩ := pt
      intro H5 x5 s5
      have p5 : DcP C σ q H1 e5 acc σ4 H5 := p4.step qp x5 s5
      cases b with
      | false =>
        refine iteF ⟨acc, wipeL e5 vs, p5.re (by rw [← w4]; exact s5.wipe (hvb _)) oww, Nat.le_succ_of_le hac, o5⟩
      | true =>
        refine iteT ⟨_, e5, s5, ?_⟩
        refine (noX_bind (E' := fun _ _ => False) o5).imp (fun pq o6 => ?_) fun _ _ z => z.elim
        obtain ⟨d6, e6⟩ := pq
        intro y H6 x6 s6 i6
        have p6 : DcP C σ q H1 e6 acc σ4 H6 := p5.step qp x6 s6
        refine ⟨_, e6, s6, ?_⟩
        refine (noX_bind (E' := fun _ _ => False) o6).imp (fun pr o7 => ?_) fun _ _ z => z.elim
        obtain ⟨d7, e7⟩ := pr
        intro z H7 x7 s7 i7
        have p7 : DcP C σ q H1 e7 acc σ4 H7 := p6.step qp x7 s7
        dsimp only at o7
        cases hk : keyOf d6 with
        | none =>
          rw [hk] at o7
          exact o7.elim
        | some key =>
          rw [hk] at o7
          obtain ⟨kvs, h1, h2, p8⟩ := p7.put (key := key) qp q0 hq i7
          refine ⟨kvs, key, keyOf_isD hk i6, h1, by rw [h2]; omega, putP acc key d7, wipeL e7 vs, ?_, Nat.le_trans putP_len (Nat.succ_le_succ hac), o7⟩
          exact p8.re (by rw [← w4]; exact p8.sr.wipe (hvb _)) oww
    · have ei : i = ds.length := by omega
      subst ei
      rw [List.drop_length] at o2
      have hfin : PFd C σ H Q (acc, keepL e1 e2 vs) := o2
      obtain ⟨kvs, h1, hk, h2⟩ := p2.dct
      obtain ⟨s9, x9⟩ := SR.outD (o := .dK kvs) (fun z => z) hv s1 hq p2.sr h1 p2.ext
      have mq : MO (C.b fun a => C.M a ∨ a = q) (L2.wipe σ vs) q := .inl (.inr rfl)
      have mq2 : ∀ a, MO C σ a → MO (C.b fun a => C.M a ∨ a = q) (L2.wipe σ vs) a := fun a z => by
        rcases z with z | z
        · exact .inl (.inl z)
        · exact .inr (by rw [oww]; exact z)
      have fin := hfin kvs (Dn.era H2 q) q (x1.trans x9) s9 hk (IsDs.era h1 (fun z => z) mq mq2 _ _ h2) era_same
      rw [era_upd h1] at fin
      exact .inl ⟨it.stop H2 xx.mo, fin⟩
  · rw [if_neg hz] at hp
    exact hp.elim
end
/-! ### name = {comprehension}, the name one's own -/
section
variable {X : Cx}
theorem ps_setDc {i : Nat} {y : Str} {py : Pos} {kx vx tg iter : Expr} {ifs : List Expr} {scope : Scope} {own : List (Str × Nat)} {pos spos : Pos} {wi : TI} {g : TG} {tt : TT} {tk tv : TE} (hc : X.calm = true) (hN : X.N.Nodup) (hy : X.N[i]? = some y) (hyl : X.env.scope.names.lookup y = some .local)
    (hsw : swapsWith (.DictComp kx vx [⟨tg, iter, ifs, 0⟩] scope pos) (some (.Name y py)) spos.line X.env = pure true) (hi : PI X tg iter wi) (ok : BlkOk X.N X.env.scope scope own)
    (hg : ∀ (s : Shared) (H : Hp) (C : Addr) (cl : List (Str × Addr)) (fp : List Addr), PG (X.blk s H scope (compEnvC scope cl C X.env) fp) tg g) (ht : ∀ (s : Shared) (H : Hp) (C : Addr) (cl : List (Str × Addr)) (fp : List Addr), PTs (X.blk s H scope (compEnvC scope cl C X.env) fp) ifs tt)
    (hk : ∀ (s : Shared) (H : Hp) (C : Addr) (cl : List (Str × Addr)) (fp : List Addr), PE (X.blk s H scope (compEnvC scope cl C X.env) fp) kx tk)
    (he : ∀ (s : Shared) (H : Hp) (C : Addr) (cl : List (Str × Addr)) (fp : List Addr), PE (X.blk s H scope (compEnvC scope cl C X.env) fp) vx tv) (hs : ∀ x, foldedSetIterable iter X.env x = pure x := by intro _; rfl) :
    PS X (.Assign [.Name y py] (.DictComp kx vx [⟨tg, iter, ifs, 0⟩] scope pos) spos) (tAsg (tDc wi g tt tk tv (own.map (·.2))) (gName i)) := by
  refine ⟨fun pins s σ H D I h => ?_⟩
  rw [exec_Assign_Name_used _ _ _ _ hsw]
  refine wpAny_bind (wpAny_standAt (wpAny_bind ?_))
  show wpAny _ X.A (do let _ ← comprehension (.DictComp kx vx [⟨tg, iter, ifs, 0⟩] scope pos) scope X.env (firstIterPos [⟨tg, iter, ifs, 0⟩] pos) newDict false (eval iter X.env) (some (assign (.Name y py) X.env))) _ _ s
  have h : tDc wi g tt tk tv (own.map (·.2)) σ H (fun x H1 => gName i x σ H1 D.nx) := h
  refine wpAny_bind (thn (dc_core (Qf := fun _ s' => SP X pins D .next s') hc hN I hi ok hg ht hk he hs h fun L C s' m H' I' q hn f => ?_) fun _ s' hq => wpAny_pure (wpAny_pure hq))
  show wpAny _ _ (assign (.Name y py) X.env (.ref L)) _ _ _
  refine wpAny_assign_Name (store_ok2 (v := V.ref L) I' hN hy (.inl hyl) rfl (fun s2 I2 ⟨a, sb, ha⟩ => ?_) (.inr hyl))
  obtain ⟨f0, f1, f2, f3, f4, f5⟩ := f
  have haC : C ≠ a := by
    rcases ha with z | z
    · rw [z]; exact f1
    · exact fun e => f4 y a z e.symm
  refine ⟨m, hn.sameBut sb haC, fun h3 sb3 => ?_⟩
  exact ⟨_, H', I2.turned (t' := s2.toks) (fun b o hb e => (sb3.2 b hb).trans e) f0 f1 f3 f4 f5, q⟩
theorem sw_trueD {kx vx : Expr} {gs : List Comprehension} {scope : Scope} {pos py : Pos} {y : Str} {l : Nat} {env : Env} (hk : env.scope.kind = .function) (hy : env.scope.names.lookup y = some .local) (hl : (py.line == pos.line) = true)
    (ha : (scope.names.any fun (n, k) => n == y && (k == .local || k == .cell)) = false) : swapsWith (.DictComp kx vx gs scope pos) (some (.Name y py)) l env = pure true := by
  have ky : env.kindOf y = some .local := hy
  have hb : env.blockKind = .function := by unfold Env.blockKind; rw [hk]; rfl
  unfold swapsWith
  simp only [hb, ky, ha, Expr.pos, hl]
  rfl
def setDM (i : Nat) (f : Lc → R ((List Key × List D) × Lc)) : MS := fun e => (f e).bind fun p => .ok (.nx, p.2.set i (some (.dct p.1.1 p.1.2)))
variable {C : Ct} {i : Nat} {y : Str} {py : Pos} {kx vx tg iter : Expr} {ifs : List Expr} {scope : Scope} {own : List (Str × Nat)} {pos spos : Pos} {fa : MD (List D)} {gg : GD} {t : MD Bool} {ek ev : MD D}
theorem setDO_of {tr : TE} {f : Lc → R ((List Key × List D) × Lc)} (ho : i ∈ C.own) (hf : Free C i) (ht : ∀ σ H Q, tFd C f σ H Q → tr σ H Q) (D : Ends) (σ : L2.St) (H : Hp) (h : tS C (setDM i f) D σ H) : tAsg tr (gName i) D σ H := by
  obtain ⟨e, s, o⟩ := h
  refine ht _ _ _ ⟨e, s, (Out.bind o).imp (fun p hp => ?_) fun _ _ z => z.xo⟩
  intro kvs H1 q x1 s1 hk i1 hq
  obtain ⟨s2, x2⟩ := s1.setO ho hf hq (o := .dK kvs) (d := .dct p.1.1 p.1.2) ⟨kvs, upd_same, hk, IsDs.step (Ext.upd hq) (fun a z => z.imp id fun z => by rw [z]; exact hq) _ _ i1⟩
  exact hp _ _ ((Stp.of x1).trans x2) s2
theorem js_setDc (ho : i ∈ C.own) (hf : Free C i) (hc : X.calm = true) (hN : X.N.Nodup) (hy : X.N[i]? = some y) (hyl : X.env.scope.names.lookup y = some .local)
    (hsw : swapsWith (.DictComp kx vx [⟨tg, iter, ifs, 0⟩] scope pos) (some (.Name y py)) spos.line X.env = pure true) (hv : OkVs C (own.map (·.2))) (hi : PI X tg iter (tI C fa)) (ok : BlkOk X.N X.env.scope scope own)
    (hg : ∀ (M' : Addr → Prop) (s : Shared) (H : Hp) (Ca : Addr) (cl : List (Str × Addr)) (fp : List Addr), PG (X.blk s H scope (compEnvC scope cl Ca X.env) fp) tg (tGv (C.b M') (own.map (·.2)) gg))
    (ht : ∀ (M' : Addr → Prop) (s : Shared) (H : Hp) (Ca : Addr) (cl : List (Str × Addr)) (fp : List Addr), PTs (X.blk s H scope (compEnvC scope cl Ca X.env) fp) ifs (tT (C.b M') t))
    (hk : ∀ (M' : Addr → Prop) (s : Shared) (H : Hp) (Ca : Addr) (cl : List (Str × Addr)) (fp : List Addr), PE (X.blk s H scope (compEnvC scope cl Ca X.env) fp) kx (tE (C.b M') ek))
    (he : ∀ (M' : Addr → Prop) (s : Shared) (H : Hp) (Ca : Addr) (cl : List (Str × Addr)) (fp : List Addr), PE (X.blk s H scope (compEnvC scope cl Ca X.env) fp) vx (tE (C.b M') ev)) (hs : ∀ x, foldedSetIterable iter X.env x = pure x := by intro _; rfl) :
    PS X (.Assign [.Name y py] (.DictComp kx vx [⟨tg, iter, ifs, 0⟩] scope pos) spos) (tS C (setDM i (dcM (own.map (·.2)) fa gg t ek ev))) :=
  PS.imp (ps_setDc hc hN hy hyl hsw hi ok (fun s H Ca cl fp => PG.exM fun M' => hg M' s H Ca cl fp) (fun s H Ca cl fp => PTs.exM fun M' => ht M' s H Ca cl fp) (fun s H Ca cl fp => PE.exM fun M' => hk M' s H Ca cl fp) (fun s H Ca cl fp => PE.exM fun M' => he M' s H Ca cl fp) hs)
    (setDO_of ho hf fun σ H Q h => dc_go hv h)
/-! ### d[k] = v, the dict one's own -/
def dputS (i : Nat) (fk fv : MD D) : MS := fun e => (fv e).bind fun p => match p.2[i]? with
  | some (some (.dct _ _)) => (fk p.2).bind fun q => match keyOf q.1, q.2[i]? with
    | some k, some (some (.dct ks ds)) => if ks.length < sizeLine then .ok (.nx, q.2.set i (some (.dct (putP (ks, ds) k p.1).1 (putP (ks, ds) k p.1).2))) else .bad
    | _, _ => .bad
  | _ => .bad
theorem js_dput {x : Str} {a b : Expr} {px pos' : Pos} {fk fv : MD D} (hu : X.A.units + 1 < cLine) (ho : i ∈ C.own) (hN : X.N[i]? = some x) (hv : Vis X.env.scope x) (hk : PE X a (tE C fk)) (he : PE X b (tE C fv)) (hd : (x == ("__debug__" : Str)) = false := by decide) (hcd : (x == ("__classdict__" : Str)) = false := by decide)
    (hs : swapsWith b (some (.Subscript (.Name x px) a pos')) pos.line X.env = pure false := by rfl) :
    PS X (.Assign [.Subscript (.Name x px) a pos'] b pos) (tS C (dputS i fk fv)) := by
  refine PS.imp (ps_dput hu (pe_var hN hv hd hcd) hk he hs) fun D σ H ⟨e, s, o⟩ => ?_
  refine ⟨e, s, (Out.bind o).imp (fun p hp => ?_) fun _ _ z => z.xo⟩
  intro v H1 x1 s1 i1
  obtain ⟨dv, e1⟩ := p
  dsimp only at hp s1 i1
  split at hp
  · rename_i ks0 ds0 h0
    obtain ⟨b0, hb0, _⟩ := s1.ow i _ ho h0
    refine ⟨.ref b0, hb0, e1, s1, (Out.bind hp).imp (fun p2 hp2 => ?_) fun _ _ z => ?_⟩
    · intro w H2 x2 s2 i2
      obtain ⟨dk, e2⟩ := p2
      dsimp only at hp2 s2 i2
      split at hp2
      · rename_i k ks ds hk2 hds
        split at hp2
        · rename_i hz
          obtain ⟨a', h4, kvs, h5, h6, h7⟩ := s2.ow i _ ho hds
          have eb : a' = b0 := by
            rw [hb0] at h4
            cases h4
            rfl
          subst eb
          have iv2 : IsD C.k H2 (MO C σ) dv v := IsD.step x2.mo (fun _ z => .inl z) _ _ i1
          obtain ⟨k1, k2⟩ := putP_ok (p := (ks, ds)) (key := k) iv2 h6 h7
          have hma : MO C σ a' := .inr ⟨i, ho, hb0⟩
          have xw : Ext (MO C σ) H2 (upd H2 a' (.dK (putK kvs k v))) := extWr hma h5 fun z => z
          obtain ⟨s3, x3⟩ := s2.write ho hb0 h5 (fun z => z) (o' := .dK (putK kvs k v)) (d := .dct (putP (ks, ds) k dv).1 (putP (ks, ds) k dv).2) ⟨putK kvs k v, upd_same, k1, IsDs.step xw (fun _ z => .inl z) _ _ k2⟩
          have ew : w = kV k := keyOf_isD hk2 i2
          subst ew
          exact ⟨a', _, rfl, DPut.k h5 (by rw [← List.length_map (f := (·.1)), h6]; exact hz), hp2 σ _ (Stp.of ((x1.trans x2).trans x3)) s3⟩
        · exact hp2.elim
      · exact hp2.elim
    · exact (XS.step z (Stp.of x1)).xo
  · exact hp.elim
end
end Dn

namespace Dn
open PySem PySem.Spec PyProof.Rows L2

/-! ### a dict of one's own, locked while it is walked -/
mutual
theorem IsD.unl {k : Kx} {H : Hp} {M : Addr → Prop} {q : Addr} {ob : Obj} {kvs : List (Key × V)} (hq : H q = some (.frz ob (.dK kvs))) : ∀ (d : D) (v : V), IsD k H M d v → IsD k (upd H q (.dK kvs)) M d v
  | .non, _, h => h
  | .bl _, _, h => h
  | .int _, _, h => h
  | .str _, _, h => h
  | .tup ds, v, ⟨a, vs, e, hs, h⟩ => by
    refine ⟨a, vs, e, ?_, IsDs.unl hq ds vs h⟩
    rcases hs with (hs | ⟨o2, hs⟩) | hs
    · exact .inl (.inl (by
        rw [upd_ne (fun z => by rw [z, hq] at hs; cases hs)]
        exact hs))
    · exact .inl (.inr ⟨o2, by
        rw [upd_ne (fun z => by rw [z, hq] at hs; cases hs)]
        exact hs⟩)
    · exact .inr hs
  | .lst ds, v, ⟨a, vs, e, hs, n, h⟩ => ⟨a, vs, e, by
      rw [upd_ne (fun z => by rw [z, hq] at hs; cases hs)]
      exact hs, n, IsDs.unl hq ds vs h⟩
  | .dct ks ds, v, ⟨a, kv, e, hs, n, ek, h⟩ => ⟨a, kv, e, by
      rw [upd_ne (fun z => by rw [z, hq] at hs; cases hs)]
      exact hs, n, ek, IsDs.unl hq ds _ h⟩
  | .fn _, _, h => h
  | .scr ns, v, ⟨a, e, hs⟩ => ⟨a, e, fun H2 h2 => by
      by_cases z : a = q
      · subst z
        have h3 := hs (upd H2 a (.frz ob (.dK kvs))) fun o u y => by
          rw [hq] at y
          rw [upd_same]
          exact y
        rcases h3 with (h3 | ⟨o2, h3⟩) | h3
        · rw [upd_same] at h3
          cases h3
        · rw [upd_same] at h3
          cases h3
        · exact .inr h3
      · exact hs H2 fun o u y => h2 o u (by rw [upd_ne z]; exact y)⟩
theorem IsDs.unl {k : Kx} {H : Hp} {M : Addr → Prop} {q : Addr} {ob : Obj} {kvs : List (Key × V)} (hq : H q = some (.frz ob (.dK kvs))) : ∀ (ds : List D) (vs : List V), IsDs k H M ds vs → IsDs k (upd H q (.dK kvs)) M ds vs
  | [], _, h => h
  | d :: ds, vs, ⟨v, r, e, h1, h2⟩ => ⟨v, r, e, IsD.unl hq d v h1, IsDs.unl hq ds r h2⟩
end
theorem OwnD.unl {k : Kx} {H : Hp} {M : Addr → Prop} {q : Addr} {ob : Obj} {kvs : List (Key × V)} (hq : H q = some (.frz ob (.dK kvs))) {d : D} {a : Addr} (ha : a ≠ q) (h : OwnD k H M d a) : OwnD k (upd H q (.dK kvs)) M d a := by
  cases d with
  | lst ds =>
    obtain ⟨vs, h1, h2⟩ := h
    exact ⟨vs, by rw [upd_ne ha]; exact h1, IsDs.unl hq _ _ h2⟩
  | dct ks ds =>
    obtain ⟨kv, h1, h2, h3⟩ := h
    exact ⟨kv, by rw [upd_ne ha]; exact h1, h2, IsDs.unl hq _ _ h3⟩
  | _ => exact h
section
variable {C : Ct}
theorem SR.lockS {e : Lc} {σ : L2.St} {H : Hp} (s : SR C e σ H) {i : Nat} (hi : i ∈ C.own) {a : Addr} (ha : σ[i]? = some (some (.ref a))) {o o' : HO} (hH : H a = some o) (hx : ¬ Fx o) :
    SR C (e.set i none) σ (upd H a o') ∧ Ext (OW C σ) H (upd H a o') := by
  have hma : OW C σ a := ⟨i, hi, ha⟩
  have x : Ext (OW C σ) H (upd H a o') := fun b u q n => by
    have hb : b ≠ a := fun z => by
      subst z
      rcases n with n | n
      · exact n hma
      · rw [hH] at q
        cases q
        exact hx n
    rw [upd_ne hb]
    exact q
  have kp : ∀ b u, H b = some u → ∃ u', upd H a o' b = some u' := fun b u q => by
    by_cases hb : b = a
    · subst hb
      exact ⟨_, upd_same⟩
    · exact ⟨u, by rw [upd_ne hb]; exact q⟩
  have kn : ∀ b u, b ≠ a → H b = some u → upd H a o' b = some u := fun b u hb q => by rw [upd_ne hb]; exact q
  refine ⟨⟨by rw [List.length_set]; exact s.len, fun j d' hj he => ?_, fun j d' hj he => ?_, s.dist, s.fr, fun b u q n => ?_, fun b h => (s.al b h).elim fun u q => kp b u q, s.nm, fun j b hj h => ?_, s.p0, fun b h => ?_⟩, x⟩
  · have hji : i ≠ j := fun z => hj (by rw [← z]; exact hi)
    rw [List.getElem?_set_ne hji] at he
    obtain ⟨v, h1, h2⟩ := s.val j d' hj he
    exact ⟨v, h1, IsD.step x.mo (fun _ z => .inl z) _ _ h2⟩
  · by_cases hji : i = j
    · subst hji
      have hl : i < e.length := by
        have := (List.getElem?_eq_some_iff.mp he).1
        rwa [List.length_set] at this
      rw [List.getElem?_set_self hl] at he
      cases he
    · rw [List.getElem?_set_ne hji] at he
      obtain ⟨b, h1, h2⟩ := s.ow j d' hj he
      have hb : b ≠ a := fun z => hji (s.dist i j a hi hj ha (by rw [← z]; exact h1))
      exact ⟨b, h1, OwnD.step x.mo (fun _ z => .inl z) h2 fun u q => kn b u hb q⟩
  · refine kn b u ?_ (s.ext b u q n)
    intro z
    subst z
    have h1 := s.ext b u q n
    rw [hH] at h1
    cases h1
    rcases n with n | n
    · rcases s.fr i b hi ha with f | f
      · rw [f] at q
        cases q
      · exact n f
    · exact hx n
  · obtain ⟨u, hu⟩ := s.alo j b hj h
    exact kp b u hu
  · obtain ⟨u, hu⟩ := s.pm b h
    exact kp b u hu
theorem SR.unlockS {e0 e : Lc} {σ : L2.St} {H0 H : Hp} (s0 : SR C e0 σ H0) (s : SR C e σ H) {i : Nat} (hi : i ∈ C.own) {a : Addr} (ha : σ[i]? = some (some (.ref a))) {ob : Obj} {kvs kv0 : List (Key × V)} (h0 : H0 a = some (.dK kv0)) (hH : H a = some (.frz ob (.dK kvs))) {ks : List Key} {ds : List D} (hk : kvs.map (·.1) = ks) (od : IsDs C.k H (MO C σ) ds (kvs.map (·.2))) :
    SR C (e.set i (some (.dct ks ds))) σ (upd H a (.dK kvs)) := by
  have kp : ∀ b u, H b = some u → ∃ u', upd H a (.dK kvs) b = some u' := fun b u q => by
    by_cases hb : b = a
    · subst hb
      exact ⟨_, upd_same⟩
    · exact ⟨u, by rw [upd_ne hb]; exact q⟩
  refine ⟨by rw [List.length_set]; exact s.len, fun j d' hj he => ?_, fun j d' hj he => ?_, s.dist, s.fr, fun b u q n => ?_, fun b h => (s.al b h).elim fun u q => kp b u q, s.nm, fun j b hj h => ?_, s.p0, fun b h => ?_⟩
  · have hji : i ≠ j := fun z => hj (by rw [← z]; exact hi)
    rw [List.getElem?_set_ne hji] at he
    obtain ⟨v, h1, h2⟩ := s.val j d' hj he
    exact ⟨v, h1, IsD.unl hH _ _ h2⟩
  · by_cases hji : i = j
    · subst hji
      have hl : i < e.length := by
        have := (List.getElem?_eq_some_iff.mp he).1
        rwa [List.length_set] at this
      rw [List.getElem?_set_self hl] at he
      cases he
      exact ⟨a, ha, kvs, upd_same, hk, IsDs.unl hH _ _ od⟩
    · rw [List.getElem?_set_ne hji] at he
      obtain ⟨b, h1, h2⟩ := s.ow j d' hj he
      have hb : b ≠ a := fun z => hji (s.dist i j a hi hj ha (by rw [← z]; exact h1))
      exact ⟨b, h1, OwnD.unl hH hb h2⟩
  · have hb : b ≠ a := fun z => by
      subst z
      have h1 := s0.ext b u q n
      rw [h0] at h1
      cases h1
      rcases n with n | n
      · rcases s.fr i b hi ha with f | f
        · rw [f] at q
          cases q
        · exact n f
      · exact n
    rw [upd_ne hb]
    exact s.ext b u q n
  · obtain ⟨u, hu⟩ := s.alo j b hj h
    exact kp b u hu
  · obtain ⟨u, hu⟩ := s.pm b h
    exact kp b u hu
/-- the slot i holds a dict; f reckons with its keys while the slot stands empty -/
def lockF (i : Nat) (f : List Key → MD (List D)) : MD (List D) := fun e => match e[i]? with
  | some (some (.dct ks ds)) => (noX (f ks (e.set i none))).bind fun p => .ok (p.1, p.2.set i (some (.dct ks ds)))
  | _ => .bad
theorem upd_swap {H : Hp} {a b : Addr} {x y : HO} (h : a ≠ b) : upd (upd H a x) b y = upd (upd H b y) a x := by
  funext c
  by_cases ha : c = a
  · subst ha
    rw [upd_ne h, upd_same, upd_same]
  · by_cases hb : c = b
    · subst hb
      rw [upd_same, upd_ne ha, upd_same]
    · rw [upd_ne hb, upd_ne ha, upd_ne ha, upd_ne hb]
theorem lock_go {i : Nat} (hi : i ∈ C.own) {f : List Key → MD (List D)} {t : TE} {σ : L2.St} {H : Hp} {Q : VK}
    (ht : ∀ (d : Addr) (ob : Obj) (kvs : List (Key × V)) (H1 : Hp) (Q1 : VK), σ[i]? = some (some (.ref d)) → H1 d = some (.frz ob (.dK kvs)) → tF C (f (kvs.map (·.1))) σ H1 Q1 → t σ H1 Q1) (h : tF C (lockF i f) σ H Q) : tLockE t σ H Q := by
  obtain ⟨e, s, o⟩ := h
  unfold lockF at o
  split at o
  · rename_i ks ds he
    obtain ⟨d, hd, kvs, h1, h2, h3⟩ := s.ow i _ hi he
    refine ⟨d, .dK kvs, h1, trivial, fun ob => ?_⟩
    obtain ⟨s1, x1⟩ := s.lockS hi hd h1 (fun z => z) (o' := .frz ob (.dK kvs))
    refine ht d ob kvs _ _ hd upd_same ⟨_, s1, ?_⟩
    rw [h2]
    have o2 := noX_bind (E' := fun _ _ => False) o
    have o3 : Out (fun p => PF C σ H Q (p.1, p.2.set i (some (.dct ks ds)))) (fun _ _ => False) (f ks (e.set i none)) := o2
    refine o3.imp (fun p hp => ?_) fun _ _ z => z.elim
    intro vs H' q x2 s2 i2 hq
    have hmd : OW C σ d := ⟨i, hi, hd⟩
    have hd2 : H' d = some (.frz ob (.dK kvs)) := x2 d _ upd_same (.inr trivial)
    have hqd : q ≠ d := fun z => by
      rw [z, hd2] at hq
      cases hq
    have i3 : IsDs C.k H' (MO C σ) ds (kvs.map (·.2)) := IsDs.step (x1.trans x2).mo (fun _ z => .inl z) _ _ h3
    refine ⟨by rw [upd_ne (fun z => hqd z.symm)]; exact hd2, ?_⟩
    rw [upd_swap hqd]
    refine hp vs (upd H' d (.dK kvs)) q (fun a u z n => ?_) (SR.unlockS s s2 hi hd h1 hd2 h2 i3) (IsDs.unl hd2 _ _ i2) (by rw [upd_ne hqd]; exact hq)
    have ha : a ≠ d := fun y => by
      subst y
      rcases n with n | n
      · exact n hmd
      · rw [h1] at z
        cases z
        exact n
    rw [upd_ne ha]
    exact (x1.trans x2) a u z n
  · exact o.elim
end
/-- the locked dict's keys -/
theorem itd_keys {C : Ct} {σ : L2.St} {H : Hp} {d : Addr} {ob : Obj} {kvs : List (Key × V)} (h : H d = some (.frz ob (.dK kvs))) : ItD C σ H ((kvs.map (·.1)).map keyV) (Itk d ob kvs) := by
  have at2 : ∀ H2, Ext (MO C σ) H H2 → H2 d = some (.frz ob (.dK kvs)) := fun H2 x => x d _ h (.inr trivial)
  refine ⟨fun H2 i dd x hd => ⟨at2 H2 x, ?_⟩, fun H2 M' i dd x H3 xx mm hd hy => ?_, fun H2 x => ⟨at2 H2 x, by rw [List.length_map, List.length_map]; exact Nat.le_refl _⟩⟩
  · have := (List.getElem?_eq_some_iff.mp hd).1
    rw [List.length_map, List.length_map] at this
    exact this
  · obtain ⟨rfl, k, v, hk, rfl⟩ := hy
    rw [List.map_map, List.getElem?_map, hk] at hd
    cases hd
    exact ⟨Same.refl _, keyV_isD _⟩
section
variable {X : Cx} {C : Ct}
/-- a Name, its slot read -/
def tSlot (i : Nat) : TE := fun σ H Q => ∃ v, σ[i]? = some (some v) ∧ Q v H
def keysM (ks : List Key) : MD (List D) := fun e => .ok (ks.map keyV, e)
variable {elt tg tg1 iter1 : Expr} {ifs ifs1 : List Expr} {scope : Scope} {own : List (Str × Nat)} {vs1 : List Nat} {pos px : Pos} {x : Str} {i : Nat} {f1 : MD (List D)} {g g1 : GD} {t t1 : MD Bool} {el : MD D}
theorem keys_go {σ : L2.St} {H1 : Hp} {R : It → Hp → Prop} {d : Addr} {ob : Obj} {kvs : List (Key × V)} {te : TE} (hte : ∀ Q : VK, Q (.ref d) H1 → te σ H1 Q) (hd : H1 d = some (.frz ob (.dK kvs))) (h : tI C (keysM (kvs.map (·.1))) σ H1 R) : iKeys te σ H1 R := by
  obtain ⟨e, s, o⟩ := h
  refine hte _ ⟨d, ob, rfl, .inl ⟨kvs, hd, ?_⟩⟩
  exact o (Itk d ob kvs) H1 (Ext.refl _ _) s (itd_keys hd)
/-- [e for k in d for b in ys], d a dict of one's own -/
theorem jf_lcK (ho : i ∈ C.own) (hNx : X.N[i]? = some x) (hvis : Vis X.env.scope x) (hd : (x == ("__debug__" : Str)) = false) (hcd : (x == ("__classdict__" : Str)) = false)
    (hc : X.calm = true) (hN : X.N.Nodup) (hv : OkVs C (own.map (·.2))) (hv1 : ∀ v ∈ vs1, v ∈ own.map (·.2)) (ok : BlkOk X.N X.env.scope scope own)
    (hg : ∀ (M' : Addr → Prop) (s : Shared) (H : Hp) (Ca : Addr) (cl : List (Str × Addr)) (fp : List Addr), PG (X.blk s H scope (compEnvC scope cl Ca X.env) fp) tg (tGv (C.b M') (own.map (·.2)) g))
    (ht : ∀ (M' : Addr → Prop) (s : Shared) (H : Hp) (Ca : Addr) (cl : List (Str × Addr)) (fp : List Addr), PTs (X.blk s H scope (compEnvC scope cl Ca X.env) fp) ifs (tT (C.b M') t))
    (hi1 : ∀ (M' : Addr → Prop) (s : Shared) (H : Hp) (Ca : Addr) (cl : List (Str × Addr)) (fp : List Addr), PI (X.blk s H scope (compEnvC scope cl Ca X.env) fp) tg1 iter1 (tI (C.b M') f1))
    (hg1 : ∀ (M' : Addr → Prop) (s : Shared) (H : Hp) (Ca : Addr) (cl : List (Str × Addr)) (fp : List Addr), PG (X.blk s H scope (compEnvC scope cl Ca X.env) fp) tg1 (tGv (C.b M') vs1 g1))
    (ht1 : ∀ (M' : Addr → Prop) (s : Shared) (H : Hp) (Ca : Addr) (cl : List (Str × Addr)) (fp : List Addr), PTs (X.blk s H scope (compEnvC scope cl Ca X.env) fp) ifs1 (tT (C.b M') t1))
    (he : ∀ (M' : Addr → Prop) (s : Shared) (H : Hp) (Ca : Addr) (cl : List (Str × Addr)) (fp : List Addr), PE (X.blk s H scope (compEnvC scope cl Ca X.env) fp) elt (tE (C.b M') el))
    (hs : ∀ v, foldedSetIterable (.Name x px) X.env v = pure v := by intro _; rfl) (hs1 : ∀ env v, foldedSetIterable iter1 env v = pure v := by intro _ _; rfl) :
    PE X (.ListComp elt [⟨tg, .Name x px, ifs, 0⟩, ⟨tg1, iter1, ifs1, 0⟩] scope pos) (tF C (lockF i fun ks => lcM2 (own.map (·.2)) vs1 (keysM ks) g t f1 g1 t1 el)) :=
  PE.imp (pe_lock (pe_lc2 hc hN (pi_keys (pe_var hNx hvis hd hcd)) ok hv1 (fun s H Ca cl fp => PG.exM fun M' => hg M' s H Ca cl fp) (fun s H Ca cl fp => PTs.exM fun M' => ht M' s H Ca cl fp) (fun s H Ca cl fp => PI.exM fun M' => hi1 M' s H Ca cl fp) (fun s H Ca cl fp => PG.exM fun M' => hg1 M' s H Ca cl fp) (fun s H Ca cl fp => PTs.exM fun M' => ht1 M' s H Ca cl fp)
    (fun s H Ca cl fp => PE.exM fun M' => he M' s H Ca cl fp) hs hs1)) fun σ H Q h => lock_go ho (fun d ob kvs H1 Q1 hd1 hH1 h1 => keys_go (fun Q hq => ⟨_, hd1, hq⟩) hH1 (lc_go2 hv hv1 h1)) h
end
end Dn

set_option maxHeartbeats 8000000
namespace Gk71
open PySem PySem.Spec PyProof.Rows L2 Dn
def top (i : Nat) : Stmt := PySem.Challenge.pw_endlessinn_k71_likeness_judged.main.body.getD i (.Pass ⟨0, 0, 0, 0⟩)
abbrev s_divisor : Stmt := top 5
abbrev N_divisor : List Str := ["one", "other"]
theorem sc_divisor : FnScope N_divisor ["one", "other"] (defScope s_divisor) := ⟨rfl, rfl, rfl, by decide +kernel, rfl, by decide +kernel, by decide +kernel⟩
abbrev s_common : Stmt := top 6
abbrev N_common : List Str := ["numbers", "found", "number"]
theorem sc_common : FnScope N_common ["numbers"] (defScope s_common) := ⟨rfl, rfl, rfl, by decide +kernel, rfl, by decide +kernel, by decide +kernel⟩
abbrev s_is_count : Stmt := top 4
abbrev N_is_count : List Str := ["thing", "least", "most"]
theorem sc_is_count : FnScope N_is_count ["thing", "least", "most"] (defScope s_is_count) := ⟨rfl, rfl, rfl, by decide +kernel, rfl, by decide +kernel, by decide +kernel⟩
abbrev s_is_row : Stmt := top 8
abbrev N_is_row : List Str := ["thing", "part"]
theorem sc_is_row : FnScope N_is_row ["thing"] (defScope s_is_row) := ⟨rfl, rfl, rfl, by decide +kernel, rfl, by decide +kernel, by decide +kernel⟩
abbrev s_rows_touch : Stmt := top 7
abbrev N_rows_touch : List Str := ["one", "step", "other", "pace"]
theorem sc_rows_touch : FnScope N_rows_touch ["one", "step", "other", "pace"] (defScope s_rows_touch) := ⟨rfl, rfl, rfl, by decide +kernel, rfl, by decide +kernel, by decide +kernel⟩
abbrev s_is_laying : Stmt := top 9
abbrev N_is_laying : List Str := ["thing", "pairs", "place", "row", "mate"]
theorem sc_is_laying : FnScope N_is_laying ["thing"] (defScope s_is_laying) := ⟨rfl, rfl, rfl, by decide +kernel, rfl, by decide +kernel, by decide +kernel⟩
abbrev s_room_at : Stmt := top 10
abbrev N_room_at : List Str := ["laying", "number", "first", "step", "room", "stride"]
theorem sc_room_at : FnScope N_room_at ["laying", "number"] (defScope s_room_at) := ⟨rfl, rfl, rfl, by decide +kernel, rfl, by decide +kernel, by decide +kernel⟩
abbrev s_lead_alike : Stmt := top 11
abbrev N_lead_alike : List Str := ["one", "other", "rows", "wide", "starts", "first", "step", "room", "stride", "turn", "rest", "row", "start", "number"]
theorem sc_lead_alike : FnScope N_lead_alike ["one", "other"] (defScope s_lead_alike) := ⟨rfl, rfl, rfl, by decide +kernel, rfl, by decide +kernel, by decide +kernel⟩
abbrev s_are_alike : Stmt := top 38
abbrev N_are_alike : List Str := ["claim", "paper"]
theorem sc_are_alike : FnScope N_are_alike ["claim", "paper"] (defScope s_are_alike) := ⟨rfl, rfl, rfl, by decide +kernel, rfl, by decide +kernel, by decide +kernel⟩
abbrev s_are_unlike : Stmt := top 39
abbrev N_are_unlike : List Str := ["claim", "paper", "one", "other", "number"]
theorem sc_are_unlike : FnScope N_are_unlike ["claim", "paper"] (defScope s_are_unlike) := ⟨rfl, rfl, rfl, by decide +kernel, rfl, by decide +kernel, by decide +kernel⟩
abbrev s_holds : Stmt := top 50
abbrev N_holds : List Str := ["claim", "paper", "parts", "look"]
theorem sc_holds : FnScope N_holds ["claim", "paper"] (defScope s_holds) := ⟨rfl, rfl, rfl, by decide +kernel, rfl, by decide +kernel, by decide +kernel⟩
abbrev s__law_taken : Stmt := top 67
abbrev N__law_taken : List Str := ["_law_say_so", "_law_sheet", "_law_due_here", "_law_told", "_law_one"]
theorem sc__law_taken : FnScope N__law_taken ["_law_say_so", "_law_sheet", "_law_due_here"] (defScope s__law_taken) := ⟨rfl, rfl, rfl, by decide +kernel, rfl, by decide +kernel, by decide +kernel⟩
abbrev s__law_take : Stmt := top 54
abbrev N__law_take : List Str := ["_law_purse_here", "_law_many", "_law_state", "_law_taken_here"]
theorem sc__law_take : FnScope N__law_take ["_law_purse_here", "_law_many"] (defScope s__law_take) := ⟨rfl, rfl, rfl, by decide +kernel, rfl, by decide +kernel, by decide +kernel⟩
abbrev s__law_classes : Stmt := top 56
abbrev N__law_classes : List Str := ["_law_purse_here", "_law_many", "_law_found", "_law_turn", "_law_at", "_law_cut", "_law_rest", "_law_step", "_law_parts", "_law_k"]
theorem sc__law_classes : FnScope N__law_classes ["_law_purse_here", "_law_many"] (defScope s__law_classes) := ⟨rfl, rfl, rfl, by decide +kernel, rfl, by decide +kernel, by decide +kernel⟩
abbrev s__law_laying : Stmt := top 57
abbrev N__law_laying : List Str := ["_law_purse_here", "_law_great", "_law_numbers", "_law_rooms", "_law_rows", "_law_lift", "_law_rest", "_law_step", "_law_spot", "_law_stride", "_law_late", "_law_high", "_law_wide", "_law_found", "_law_row"]
theorem sc__law_laying : FnScope N__law_laying ["_law_purse_here", "_law_great"] (defScope s__law_laying) := ⟨rfl, rfl, rfl, by decide +kernel, rfl, by decide +kernel, by decide +kernel⟩
abbrev s__law_told_otherwise : Stmt := top 70
abbrev N__law_told_otherwise : List Str := ["_law_purse_here", "_law_rows", "_law_at", "_law_cut", "_law_late", "_law_first", "_law_step", "_law_spot", "_law_stride", "_law_parts", "_law_found", "_law_k"]
theorem sc__law_told_otherwise : FnScope N__law_told_otherwise ["_law_purse_here", "_law_rows"] (defScope s__law_told_otherwise) := ⟨rfl, rfl, rfl, by decide +kernel, rfl, by decide +kernel, by decide +kernel⟩
abbrev s__law_near : Stmt := top 71
abbrev N__law_near : List Str := ["_law_purse_here", "_law_rows", "_law_at", "_law_way", "_law_first", "_law_step", "_law_spot", "_law_stride", "_law_late"]
theorem sc__law_near : FnScope N__law_near ["_law_purse_here", "_law_rows"] (defScope s__law_near) := ⟨rfl, rfl, rfl, by decide +kernel, rfl, by decide +kernel, by decide +kernel⟩
abbrev s__law_claims : Stmt := top 72
abbrev N__law_claims : List Str := ["_law_purse_here", "_law_rows", "_law_same", "_law_twice", "_law_found", "_law_others", "_law_lines", "_law_figure", "_law_row"]
theorem sc__law_claims : FnScope N__law_claims ["_law_purse_here", "_law_rows"] (defScope s__law_claims) := ⟨rfl, rfl, rfl, by decide +kernel, rfl, by decide +kernel, by decide +kernel⟩
abbrev s__law_odd : Stmt := top 65
abbrev N__law_odd : List Str := ["_law_purse_here", "_law_some"]
theorem sc__law_odd : FnScope N__law_odd ["_law_purse_here"] (defScope s__law_odd) := ⟨rfl, rfl, rfl, by decide +kernel, rfl, by decide +kernel, by decide +kernel⟩
abbrev s__law_bent : Stmt := top 66
abbrev N__law_bent : List Str := ["_law_purse_here", "_law_thing", "_law_at", "_law_kind"]
theorem sc__law_bent : FnScope N__law_bent ["_law_purse_here", "_law_thing"] (defScope s__law_bent) := ⟨rfl, rfl, rfl, by decide +kernel, rfl, by decide +kernel, by decide +kernel⟩
abbrev s__law_spoilt : Stmt := top 68
abbrev N__law_spoilt : List Str := ["_law_purse_here", "_law_say_so", "_law_sheet", "_law_turn", "_law_at"]
theorem sc__law_spoilt : FnScope N__law_spoilt ["_law_purse_here", "_law_say_so", "_law_sheet"] (defScope s__law_spoilt) := ⟨rfl, rfl, rfl, by decide +kernel, rfl, by decide +kernel, by decide +kernel⟩
abbrev s__law_room : Stmt := top 58
abbrev N__law_room : List Str := ["_law_rows", "_law_number", "_law_first", "_law_step", "_law_room_here", "_law_stride"]
theorem sc__law_room : FnScope N__law_room ["_law_rows", "_law_number"] (defScope s__law_room) := ⟨rfl, rfl, rfl, by decide +kernel, rfl, by decide +kernel, by decide +kernel⟩
abbrev s__law_shared : Stmt := top 55
abbrev N__law_shared : List Str := ["_law_one", "_law_other"]
theorem sc__law_shared : FnScope N__law_shared ["_law_one", "_law_other"] (defScope s__law_shared) := ⟨rfl, rfl, rfl, by decide +kernel, rfl, by decide +kernel, by decide +kernel⟩
abbrev s__law_spots : Stmt := top 63
abbrev N__law_spots : List Str := ["_law_rows", "_law_lines", "_law_whole_here", "_law_row", "_law_found", "_law_first", "_law_step", "_law_spot", "_law_stride", "_law_begins", "_law_begin", "_law_k"]
theorem sc__law_spots : FnScope N__law_spots ["_law_rows", "_law_lines"] (defScope s__law_spots) := ⟨rfl, rfl, rfl, by decide +kernel, rfl, by decide +kernel, by decide +kernel⟩
abbrev s__law_are_alike : Stmt := top 64
abbrev N__law_are_alike : List Str := ["_law_rows", "_law_lines", "_law_spot"]
theorem sc__law_are_alike : FnScope N__law_are_alike ["_law_rows", "_law_lines"] (defScope s__law_are_alike) := ⟨rfl, rfl, rfl, by decide +kernel, rfl, by decide +kernel, by decide +kernel⟩
abbrev s__law_whole : Stmt := top 59
abbrev N__law_whole : List Str := ["_law_thing"]
theorem sc__law_whole : FnScope N__law_whole ["_law_thing"] (defScope s__law_whole) := ⟨rfl, rfl, rfl, by decide +kernel, rfl, by decide +kernel, by decide +kernel⟩
abbrev s__law_is_row : Stmt := top 60
abbrev N__law_is_row : List Str := ["_law_thing", "_law_part"]
theorem sc__law_is_row : FnScope N__law_is_row ["_law_thing"] (defScope s__law_is_row) := ⟨rfl, rfl, rfl, by decide +kernel, rfl, by decide +kernel, by decide +kernel⟩
abbrev s__law_meets : Stmt := top 61
abbrev N__law_meets : List Str := ["_law_begin", "_law_step", "_law_start", "_law_pace"]
theorem sc__law_meets : FnScope N__law_meets ["_law_begin", "_law_step", "_law_start", "_law_pace"] (defScope s__law_meets) := ⟨rfl, rfl, rfl, by decide +kernel, rfl, by decide +kernel, by decide +kernel⟩
abbrev s__law_fault : Stmt := top 62
abbrev N__law_fault : List Str := ["_law_thing", "_law_whole_here", "_law_place", "_law_row", "_law_mate"]
theorem sc__law_fault : FnScope N__law_fault ["_law_thing"] (defScope s__law_fault) := ⟨rfl, rfl, rfl, by decide +kernel, rfl, by decide +kernel, by decide +kernel⟩
abbrev s__law_due : Stmt := top 69
abbrev N__law_due : List Str := ["_law_say_so", "_law_sheet"]
theorem sc__law_due : FnScope N__law_due ["_law_say_so", "_law_sheet"] (defScope s__law_due) := ⟨rfl, rfl, rfl, by decide +kernel, rfl, by decide +kernel, by decide +kernel⟩
abbrev s__law_right : Stmt := top 73
abbrev N__law_right : List Str := ["_law_purse_here", "_law_rows", "_law_say_so", "_law_sheet", "_law_bent_here", "_law_leaf"]
theorem sc__law_right : FnScope N__law_right ["_law_purse_here"] (defScope s__law_right) := ⟨rfl, rfl, rfl, by decide +kernel, rfl, by decide +kernel, by decide +kernel⟩
abbrev s__law_purse : Stmt := top 53
abbrev N__law_purse : List Str := ["_law_cell_here", "_law_digits"]
theorem sc__law_purse : FnScope N__law_purse ["_law_cell_here"] (defScope s__law_purse) := ⟨rfl, rfl, rfl, by decide +kernel, rfl, by decide +kernel, by decide +kernel⟩
abbrev s__law_cell : Stmt := top 52
abbrev N__law_cell : List Str := ["_law_script", "_law_k", "_law_state", "_law_cell_here"]
theorem sc__law_cell : FnScope N__law_cell ["_law_script", "_law_k"] (defScope s__law_cell) := ⟨rfl, rfl, rfl, by decide +kernel, rfl, by decide +kernel, by decide +kernel⟩
abbrev s_law : Stmt := top 74
abbrev N_law : List Str := ["_law_script", "_law_distant", "_law_k"]
theorem sc_law : FnScope N_law ["_law_script"] (defScope s_law) := ⟨rfl, rfl, rfl, by decide +kernel, rfl, by decide +kernel, by decide +kernel⟩
/-! ### the functions, as plain functions over data -/
def tbl_CLAIMS : List (Str × Option D) := [("alike", some (.tup [.int 3, .fn 0])), ("unlike", some (.tup [.int 4, .fn 1]))]
def m_divisor : MS := (seqS (whS (tst (bin2 neD (vr 1) (cst (.int 0))))
  (parS 0 1 (vr 1) (bin2 modD (vr 0) (vr 1))) 1000000)
  (retS (callD absD (consA (vr 0) nilA))))
def F_divisor : List D → R D := runB 2 false m_divisor
def m_common : MS := (seqS (setS 1 (cst (.int 1)))
  (seqS (forM (seqM (vr 0)) (nmG 2)
  (setS 1 (bin2 fdivD (bin2 mulD (vr 1) (vr 2)) (calM F_divisor [] (consA (vr 1) (consA (vr 2) nilA))))))
  (retS (vr 1))))
def F_common : List D → R D := runB 3 false m_common
def m_is_count : MS := (seqS (ifS (orT (tru (un1 (isiD isBool) (vr 0))) (notT (tru (un1 (isiD isInt) (vr 0)))))
  (retS (cst (.bl false)))
  nxS)
  (retS (andV (bin2 geD (vr 0) (vr 1)) (orV (bin2 isN (vr 2) (cst .non)) (bin2 leD (vr 0) (vr 2))))))
def F_is_count : List D → R D := runB 3 false m_is_count
def m_is_row : MS := (seqS (ifS (orT (notT (tru (un1 (isiD isTup) (vr 0)))) (orT (tst (bin2 neD (callD lenD (consA (vr 0) nilA)) (cst (.int 4)))) (notT (tru (callD allD (consA (asL (lcM [1] (seqM (vr 0)) (nmG 1) yesT (calM F_is_count [.int 0, .non] (consA (vr 1) nilA)))) nilA))))))
  (retS (cst (.bl false)))
  nxS)
  (retS (andV (bin2 eqD (bin2 gtD (bin2 idxD (vr 0) (cst (.int 1))) (cst (.int 0))) (bin2 gtD (bin2 idxD (vr 0) (cst (.int 3))) (cst (.int 0)))) (bin2 leD (bin2 idxD (vr 0) (cst (.int 1))) (cst (.int 240))))))
def F_is_row : List D → R D := runB 2 false m_is_row
def m_rows_touch (F0 : List D → R D) : MS := (seqS (ifS (andT (tst (bin2 eqD (vr 1) (cst (.int 0)))) (tst (bin2 eqD (vr 3) (cst (.int 0)))))
  (retS (bin2 eqD (vr 0) (vr 2)))
  nxS)
  (seqS (ifS (tst (bin2 eqD (vr 1) (cst (.int 0))))
  (retS (andV (bin2 geD (vr 0) (vr 2)) (bin2 eqD (bin2 modD (bin2 subD (vr 0) (vr 2)) (vr 3)) (cst (.int 0)))))
  nxS)
  (seqS (ifS (tst (bin2 eqD (vr 3) (cst (.int 0))))
  (retS (calM F0 [] (consA (vr 2) (consA (vr 3) (consA (vr 0) (consA (vr 1) nilA))))))
  nxS)
  (retS (bin2 eqD (bin2 modD (bin2 subD (vr 0) (vr 2)) (calM F_divisor [] (consA (vr 1) (consA (vr 3) nilA)))) (cst (.int 0)))))))
def F_rows_touch : Nat → List D → R D
  | 0, _ => .bad
  | k + 1, ds => runB 4 false (m_rows_touch (F_rows_touch k)) ds
def m_is_laying : MS := (seqS (ifS (orT (notT (tru (un1 (isiD isTup) (vr 0)))) (orT (tst (bin2 gtD (callD lenD (consA (vr 0) nilA)) (cst (.int 60)))) (notT (tru (callD allD (consA (asL (lcM [3] (seqM (vr 0)) (nmG 3) yesT (calM F_is_row [] (consA (vr 3) nilA)))) nilA))))))
  (retS (cst (.bl false)))
  nxS)
  (seqS (ifS (tst (bin2 gtD (calM F_common [] (consA (asL (lcM [3] (seqM (vr 0)) (nmG 3) (tst (bin2 gtD (bin2 idxD (vr 3) (cst (.int 1))) (cst (.int 0)))) (bin2 idxD (vr 3) (cst (.int 1))))) nilA)) (cst (.int 240))))
  (retS (cst (.bl false)))
  nxS)
  (seqS (setO 1 (lcM2 [2, 3, 4] [4] (enumM (consA (vr 0) nilA)) (tupG 2 (consG (nmG 2) (consG (nmG 3) nilG))) yesT (seqM (sliE (vr 0) noP (soP (vr 2)))) (nmG 4) yesT (tupE (consA (vr 3) (consA (vr 4) nilA)))))
  (retS (notV (callD anyD (consA (asL (lcM [3, 4] (seqM (vr 1)) (tupG 2 (consG (nmG 3) (consG (nmG 4) nilG))) yesT (orV (calM (F_rows_touch 2) [] (consA (bin2 idxD (vr 3) (cst (.int 0))) (consA (bin2 idxD (vr 3) (cst (.int 1))) (consA (bin2 idxD (vr 4) (cst (.int 0))) (consA (bin2 idxD (vr 4) (cst (.int 1))) nilA))))) (calM (F_rows_touch 2) [] (consA (bin2 idxD (vr 3) (cst (.int 2))) (consA (bin2 idxD (vr 3) (cst (.int 3))) (consA (bin2 idxD (vr 4) (cst (.int 2))) (consA (bin2 idxD (vr 4) (cst (.int 3))) nilA)))))))) nilA)))))))
def F_is_laying : List D → R D := runB 5 false m_is_laying
def m_room_at : MS := (seqS (forM (seqM (vr 0)) (tupG 4 (consG (nmG 2) (consG (nmG 3) (consG (nmG 4) (consG (nmG 5) nilG)))))
  (seqS (ifS (andT (tst (bin2 eqD (vr 3) (cst (.int 0)))) (tst (bin2 eqD (vr 2) (vr 1))))
  (retS (vr 4))
  nxS)
  (ifS (andT (tst (bin2 gtD (vr 3) (cst (.int 0)))) (andT (tst (bin2 geD (vr 1) (vr 2))) (tst (bin2 eqD (bin2 modD (bin2 subD (vr 1) (vr 2)) (vr 3)) (cst (.int 0))))))
  (retS (bin2 addD (vr 4) (bin2 mulD (vr 5) (bin2 fdivD (bin2 subD (vr 1) (vr 2)) (vr 3)))))
  nxS)))
  (retS (cst .non)))
def F_room_at : List D → R D := runB 6 false m_room_at
def m_lead_alike : MS := (seqS (setS 2 (bin2 addD (vr 0) (vr 1)))
  (seqS (setS 3 (calM F_common [] (consA (asL (lcM [11] (seqM (vr 2)) (nmG 11) (tst (bin2 gtD (bin2 idxD (vr 11) (cst (.int 1))) (cst (.int 0)))) (bin2 idxD (vr 11) (cst (.int 1))))) nilA)))
  (seqS (setDM 4 (dcM [10] (rng1M (consA (vr 3) nilA)) (nmG 10) yesT (vr 10) (cst (.bl true))))
  (seqS (forM (seqM (vr 2)) (tupG 4 (consG (nmG 5) (consG (nmG 6) (consG (nmG 7) (consG (nmG 8) nilG)))))
  (forM (rng1M (consA (ifV (tst (bin2 eqD (vr 6) (cst (.int 0)))) (cst (.int 2)) (bin2 fdivD (vr 3) (vr 6))) nilA)) (nmG 9)
  (dputS 4 (bin2 addD (vr 5) (bin2 mulD (ifV (tst (bin2 eqD (vr 6) (cst (.int 0)))) (vr 3) (vr 6)) (vr 9))) (cst (.bl true)))))
  (retS (callD allD (consA (asL (lockF 4 fun ks => lcM2 [12, 13] [13] (keysM ks) (nmG 12) yesT (seqM (tupE (consA (vr 12) (consA (bin2 addD (vr 12) (vr 3)) nilA)))) (nmG 13) yesT (bin2 eqD (calM F_room_at [] (consA (vr 0) (consA (vr 13) nilA))) (calM F_room_at [] (consA (vr 1) (consA (vr 13) nilA)))))) nilA)))))))
def F_lead_alike : List D → R D := runB 14 false m_lead_alike
def m_are_alike : MS := (retS (andV (calM F_is_laying [] (consA (bin2 idxD (vr 0) (cst (.int 0))) nilA)) (andV (calM F_is_laying [] (consA (bin2 idxD (vr 0) (cst (.int 1))) nilA)) (andV (bin2 isN (vr 1) (cst .non)) (calM F_lead_alike [] (consA (bin2 idxD (vr 0) (cst (.int 0))) (consA (bin2 idxD (vr 0) (cst (.int 1))) nilA)))))))
def F_are_alike : List D → R D := runB 2 false m_are_alike
def m_are_unlike : MS := (seqS (asgS (vr 0) (tupG 3 (consG (nmG 2) (consG (nmG 3) (consG (nmG 4) nilG)))))
  (seqS (ifS (orT (notT (tru (calM F_is_laying [] (consA (vr 2) nilA)))) (orT (notT (tru (calM F_is_laying [] (consA (vr 3) nilA)))) (orT (notT (tru (calM F_is_count [.int 0, .non] (consA (vr 4) nilA)))) (tst (bin2 isNN (vr 1) (cst .non))))))
  (retS (cst (.bl false)))
  nxS)
  (retS (bin2 neD (calM F_room_at [] (consA (vr 2) (consA (vr 4) nilA))) (calM F_room_at [] (consA (vr 3) (consA (vr 4) nilA)))))))
def F_are_unlike : List D → R D := runB 5 false m_are_unlike
def T_holds : Nat → Option (List D → R D)
  | 0 => some F_are_alike
  | 1 => some F_are_unlike
  | _ => none
def m_holds : MS := (seqS (ifS (orT (notT (tru (un1 (isiD isTup) (vr 0)))) (orT (notT (tru (vr 0))) (orT (notT (tru (un1 (isiD isStr) (bin2 idxD (vr 0) (cst (.int 0)))))) (tst (un1 (inKt true tbl_CLAIMS) (bin2 idxD (vr 0) (cst (.int 0))))))))
  (retS (cst (.bl false)))
  nxS)
  (seqS (asgS (un1 (getKt tbl_CLAIMS) (bin2 idxD (vr 0) (cst (.int 0)))) (tupG 2 (consG (nmG 2) (consG (nmG 3) nilG))))
  (retS (andV (bin2 eqD (callD lenD (consA (vr 0) nilA)) (vr 2)) (calA T_holds 3 (consA (sliE (vr 0) (soP (cst (.int 1))) noP) (consA (vr 1) nilA)))))))
def F_holds : List D → R D := runB 4 false m_holds
def m__law_taken : MS := (seqS (setS 3 (lstE (consA (calM F_holds [] (consA (vr 0) (consA (vr 1) nilA))) (consA (calK F_holds (fun ds es => ds ++ es.reverse) nilA (consA (vr 1) (consA (vr 0) nilA))) nilA))))
  (retS (callD allD (consA (asL (lcM [4] (seqM (vr 3)) (nmG 4) yesT (andV (un1 (isiD isBool) (vr 4)) (bin2 eqD (vr 4) (vr 2))))) nilA))))
def F__law_taken : List D → R D := runB 5 false m__law_taken
def m__law_take : MS := (seqS (asgS (bin2 addD (oix 0 (cst (.int 2))) (cst (.int 1))) (isLG 0 (subG 0 (cst (.int 2)))))
  (seqS (setS 2 (oix 0 (cst (.int 0))))
  (seqS (asgS (bin2 modD (bin2 addD (bin2 addD (bin2 mulD (vr 2) (bin2 addD (bin2 modD (vr 2) (cst (.int 50021))) (cst (.int 20011)))) (bin2 mulD (cst (.int 60013)) (oix 0 (cst (.int 2))))) (cst (.int 5))) (cst (.int 1000000021))) (isLG 0 (subG 0 (cst (.int 0)))))
  (seqS (ifS (tst (bin2 gtD (oix 0 (cst (.int 1))) (cst (.int 0))))
  (seqS (setS 3 (bin2 modD (oix 0 (cst (.int 1))) (vr 1)))
  (seqS (asgS (bin2 fdivD (oix 0 (cst (.int 1))) (vr 1)) (isLG 0 (subG 0 (cst (.int 1)))))
  (retS (vr 3))))
  nxS)
  (retS (bin2 modD (bin2 fdivD (oix 0 (cst (.int 0))) (cst (.int 32))) (vr 1)))))))
def F__law_take : D → List D → R (D × D) := runI 4 false m__law_take
def m__law_classes : MS := (seqS (setO 2 (szA (consA (tupE (consA (cst (.int 0)) (consA (cst (.int 1)) nilA))) nilA)))
  (seqS (forM (rng1M (consA (vr 1) nilA)) (nmG 3)
  (seqS (asgS (tupE (consA (calI F__law_take 0 (consA (callO lenD 2) nilA)) (consA (bin2 addD (cst (.int 2)) (calI F__law_take 0 (consA (cst (.int 2)) nilA))) nilA))) (tupG 2 (consG (nmG 4) (consG (nmG 5) nilG))))
  (seqS (asgS (oix 2 (vr 4)) (tupG 2 (consG (nmG 6) (consG (nmG 7) nilG))))
  (ifS (tst (bin2 eqD (bin2 modD (cst (.int 24)) (bin2 mulD (vr 7) (vr 5))) (cst (.int 0))))
  (seqS (setO 8 (lcM [9] (rng1M (consA (vr 5) nilA)) (nmG 9) yesT (tupE (consA (bin2 addD (vr 6) (bin2 mulD (vr 7) (vr 9))) (consA (bin2 mulD (vr 7) (vr 5)) nilA)))))
  (setO 2 (addF (bin2 addD (sliO 2 noP (soP (vr 4))) (sliO 2 (soP (bin2 addD (vr 4) (cst (.int 1)))) noP)) (vr 8))))
  nxS))))
  (retL 2)))
def F__law_classes : D → List D → R (D × D) := runI 10 true m__law_classes
def m__law_laying : MS := (seqS (parS2 2 3 (calI F__law_classes 0 (consA (calI F__law_take 0 (consA (cst (.int 5)) nilA)) nilA)) (caIF F__law_classes 0 (consA (calI F__law_take 0 (consA (cst (.int 5)) nilA)) nilA)))
  (seqS (parS1 4 5 (szA nilA) (bin2 idxD (lstE (consA (cst (.int 0)) (consA (bin2 powD (cst (.int 10)) (cst (.int 30))) nilA))) (callD intD (consA (andV (vr 1) (bin2 eqD (calI F__law_take 0 (consA (cst (.int 3)) nilA)) (cst (.int 0)))) nilA))))
  (seqS (forM (seqM (vr 2)) (tupG 2 (consG (nmG 6) (consG (nmG 7) nilG)))
  (ifS (andT (tst (bin2L neD 3 (lstE nilA))) (tst (bin2 gtD (calI F__law_take 0 (consA (cst (.int 6)) nilA)) (cst (.int 0)))))
  (seqS (asgS (popK 3 (calI F__law_take 0 (consA (callO lenD 3) nilA))) (tupG 2 (consG (nmG 8) (consG (nmG 9) nilG))))
  (seqS (parS 10 11 (calI F__law_take 0 (consA (cst (.int 3)) nilA)) (calI F__law_take 0 (consA (cst (.int 3)) nilA)))
  (seqS (setS 12 (bin2 idxD (lstE (consA (cst (.int 1)) (consA (bin2 powD (cst (.int 10)) (cst (.int 20))) nilA))) (callD intD (consA (andV (vr 1) (bin2 eqD (calI F__law_take 0 (consA (cst (.int 4)) nilA)) (cst (.int 0)))) nilA))))
  (seqS (isL 4 (appS 4 (tupE (consA (bin2 addD (vr 6) (bin2 mulD (vr 7) (vr 10))) (consA (vr 7) (consA (bin2 addD (vr 8) (bin2 mulD (vr 9) (bin2 addD (vr 11) (vr 5)))) (consA (bin2 mulD (vr 9) (vr 12)) nilA)))))))
  (ifS (andT (tst (bin2 gtD (vr 10) (cst (.int 0)))) (andT (tst (bin2 gtD (vr 11) (cst (.int 0)))) (tst (bin2 eqD (calI F__law_take 0 (consA (cst (.int 2)) nilA)) (cst (.int 0))))))
  (isL 4 (appS 4 (tupE (consA (bin2 addD (vr 6) (bin2 mulD (vr 7) (bin2 subD (vr 10) (cst (.int 1))))) (consA (cst (.int 0)) (consA (bin2 addD (vr 8) (bin2 mulD (vr 9) (bin2 subD (bin2 subD (vr 11) (cst (.int 1))) (calI F__law_take 0 (consA (vr 11) nilA))))) (consA (cst (.int 0)) nilA)))))))
  nxS)))))
  nxS))
  (frzS (seqS (setO 13 (szA nilA))
  (seqS (forM (seqM (vr 4)) (nmG 14)
  (expS (insK 13 (calI F__law_take 0 (consA (bin2 addD (callO lenD 13) (cst (.int 1))) nilA)) (vr 14))))
  (frzS (retS (callD tupleD (consA (vr 13) nilA))))))))))
def F__law_laying : D → List D → R (D × D) := runI 15 false m__law_laying
def m__law_told_otherwise : MS := (seqS (ifS (tst (bin2 eqD (vr 1) (tupE nilA)))
  (retS (vr 1))
  nxS)
  (seqS (asgS (tupE (consA (calI F__law_take 0 (consA (callD lenD (consA (vr 1) nilA)) nilA)) (consA (bin2 addD (cst (.int 2)) (calI F__law_take 0 (consA (cst (.int 2)) nilA))) (consA (calI F__law_take 0 (consA (cst (.int 4)) nilA)) nilA)))) (tupG 3 (consG (nmG 2) (consG (nmG 3) (consG (nmG 4) nilG)))))
  (seqS (asgS (bin2 idxD (vr 1) (vr 2)) (tupG 4 (consG (nmG 5) (consG (nmG 6) (consG (nmG 7) (consG (nmG 8) nilG))))))
  (seqS (setO 9 (szA (consA (bin2 idxD (vr 1) (vr 2)) nilA)))
  (seqS (ifS (andT (tst (bin2 gtD (vr 6) (cst (.int 0)))) (tst (bin2 eqD (calI F__law_take 0 (consA (cst (.int 2)) nilA)) (cst (.int 0)))))
  (setO 9 (lcM [11] (rng1M (consA (vr 3) nilA)) (nmG 11) yesT (tupE (consA (bin2 addD (vr 5) (bin2 mulD (vr 6) (vr 11))) (consA (bin2 mulD (vr 6) (vr 3)) (consA (bin2 addD (vr 7) (bin2 mulD (vr 8) (vr 11))) (consA (bin2 mulD (vr 8) (vr 3)) nilA)))))))
  (ifS (tst (bin2 gtD (vr 6) (cst (.int 0))))
  (seqS (setO 9 (lcM [11] (rng1M (consA (vr 4) nilA)) (nmG 11) yesT (tupE (consA (bin2 addD (vr 5) (bin2 mulD (vr 6) (vr 11))) (consA (cst (.int 0)) (consA (bin2 addD (vr 7) (bin2 mulD (vr 8) (vr 11))) (consA (cst (.int 0)) nilA)))))))
  (isL 9 (appS 9 (tupE (consA (bin2 addD (vr 5) (bin2 mulD (vr 6) (vr 4))) (consA (vr 6) (consA (bin2 addD (vr 7) (bin2 mulD (vr 8) (vr 4))) (consA (vr 8) nilA))))))))
  nxS))
  (frzS (seqS (setS 10 (bin2 addD (bin2 addD (callD listD (consA (sliE (vr 1) noP (soP (vr 2))) nilA)) (vr 9)) (callD listD (consA (sliE (vr 1) (soP (bin2 addD (vr 2) (cst (.int 1)))) noP) nilA))))
  (retS (callD tupleD (consA (stepE (vr 10) noP noP (soP (bin2 idxD (lstE (consA (cst (.int 1)) (consA (un1 negD (cst (.int 1))) nilA))) (calI F__law_take 0 (consA (cst (.int 2)) nilA))))) nilA))))))))))
def F__law_told_otherwise : D → List D → R (D × D) := runI 12 false m__law_told_otherwise
def m__law_near : MS := (seqS (ifS (tst (bin2 eqD (vr 1) (tupE nilA)))
  (retS (tupE (consA (tupE (consA (cst (.int 3)) (consA (cst (.int 0)) (consA (cst (.int 5)) (consA (cst (.int 0)) nilA))))) nilA)))
  nxS)
  (seqS (parS 2 3 (calI F__law_take 0 (consA (callD lenD (consA (vr 1) nilA)) nilA)) (calI F__law_take 0 (consA (cst (.int 4)) nilA)))
  (seqS (asgS (bin2 idxD (vr 1) (vr 2)) (tupG 4 (consG (nmG 4) (consG (nmG 5) (consG (nmG 6) (consG (nmG 7) nilG))))))
  (seqS (ifS (tst (bin2 eqD (vr 3) (cst (.int 0))))
  (retS (bin2 addD (sliE (vr 1) noP (soP (vr 2))) (sliE (vr 1) (soP (bin2 addD (vr 2) (cst (.int 1)))) noP)))
  nxS)
  (seqS (ifS (andT (tst (bin2 eqD (vr 3) (cst (.int 1)))) (tst (bin2 gtD (vr 5) (cst (.int 0)))))
  (seqS (setS 8 (tupE (consA (bin2 addD (vr 4) (vr 5)) (consA (vr 5) (consA (bin2 addD (vr 6) (vr 7)) (consA (vr 7) nilA))))))
  (retS (bin2 addD (bin2 addD (sliE (vr 1) noP (soP (vr 2))) (tupE (consA (vr 8) nilA))) (sliE (vr 1) (soP (bin2 addD (vr 2) (cst (.int 1)))) noP))))
  nxS)
  (seqS (ifS (andT (tst (bin2 eqD (vr 3) (cst (.int 2)))) (tst (bin2 gtD (vr 5) (cst (.int 0)))))
  (retS (bin2 addD (bin2 addD (sliE (vr 1) noP (soP (vr 2))) (tupE (consA (tupE (consA (vr 4) (consA (vr 5) (consA (bin2 addD (vr 6) (vr 7)) (consA (vr 7) nilA))))) nilA))) (sliE (vr 1) (soP (bin2 addD (vr 2) (cst (.int 1)))) noP)))
  nxS)
  (retS (bin2 addD (bin2 addD (sliE (vr 1) noP (soP (vr 2))) (tupE (consA (tupE (consA (vr 4) (consA (vr 5) (consA (vr 6) (consA (bin2 mulD (cst (.int 2)) (vr 7)) nilA))))) nilA))) (sliE (vr 1) (soP (bin2 addD (vr 2) (cst (.int 1)))) noP)))))))))
def F__law_near : D → List D → R (D × D) := runI 9 false m__law_near
def m__law_claims : MS := (seqS (setS 2 (calI F__law_told_otherwise 0 (consA (vr 1) nilA)))
  (seqS (setS 3 (calI F__law_told_otherwise 0 (consA (vr 2) nilA)))
  (seqS (parS1 4 5 (szA nilA) (lstE (consA (vr 2) (consA (vr 3) (consA (calI F__law_near 0 (consA (vr 1) nilA)) (consA (calI F__law_near 0 (consA (vr 2) nilA)) (consA (calI F__law_laying 0 (consA (cst (.bl false)) nilA)) (consA (tupE nilA) nilA))))))))
  (seqS (forM (seqM (vr 5)) (nmG 6)
  (seqS (isL 4 (appS 4 (tupE (consA (tupE (consA (cst (.str "alike")) (consA (vr 1) (consA (vr 6) nilA)))) (consA (cst .non) nilA)))))
  (seqS (isL 4 (appS 4 (tupE (consA (tupE (consA (cst (.str "alike")) (consA (vr 6) (consA (vr 1) nilA)))) (consA (cst .non) nilA)))))
  (seqS (forM (seqM (lstE (consA (calI F__law_take 0 (consA (cst (.int 9)) nilA)) (consA (calI F__law_take 0 (consA (cst (.int 60)) nilA)) (consA (bin2 addD (bin2 powD (cst (.int 10)) (cst (.int 30))) (calI F__law_take 0 (consA (cst (.int 24)) nilA))) nilA))))) (nmG 7)
  (isL 4 (appS 4 (tupE (consA (tupE (consA (cst (.str "unlike")) (consA (vr 1) (consA (vr 6) (consA (vr 7) nilA))))) (consA (cst .non) nilA))))))
  (forM (seqM (sliE (bin2 addD (vr 1) (vr 6)) noP (soP (cst (.int 4))))) (nmG 8)
  (isL 4 (appS 4 (tupE (consA (tupE (consA (cst (.str "unlike")) (consA (vr 6) (consA (vr 1) (consA (bin2 idxD (vr 8) (cst (.int 0))) nilA))))) (consA (cst .non) nilA))))))))))
  (frzS (retS (vr 4)))))))
def F__law_claims : D → List D → R (D × D) := runI 9 false m__law_claims
def m__law_odd : MS := (seqS (setS 1 (lstE (consA (cst .non) (consA (cst (.bl true)) (consA (cst (.bl false)) (consA (cst (.int 0)) (consA (cst (.int 1)) (consA (bin2 subD (cst (.int 0)) (cst (.int 1))) (consA (cst (.int 7)) (consA (cst (.str "")) (consA (cst (.str "a")) (consA (cst (.str "free")) (consA (tupE nilA) (consA (lstE nilA) (consA (cst (.dct [] [])) (consA (tupE (consA (cst (.int 0)) nilA)) (consA (lstE (consA (cst (.int 0)) nilA)) (consA (tupE (consA (lstE nilA) nilA)) (consA (tupE (consA (cst (.dct [] [])) nilA)) (consA (tupE (consA (cst .non) nilA)) (consA (tupE (consA (cst (.int 1)) nilA)) nilA)))))))))))))))))))))
  (seqS (setS 1 (bin2 addD (vr 1) (lstE (consA (tupE (consA (cst (.bl true)) nilA)) (consA (bin2 powD (cst (.int 10)) (cst (.int 30))) (consA (cst (.str "single")) (consA (cst (.str "ahead")) (consA (cst (.str "rest")) (consA (tupE (consA (cst (.int 0)) (consA (cst (.int 1)) nilA))) (consA (tupE (consA (cst (.int 1)) (consA (cst (.int 0)) nilA))) (consA (tupE (consA (tupE (consA (cst (.int 0)) (consA (cst (.int 1)) nilA))) nilA)) (consA (tupE (consA (tupE nilA) (consA (tupE nilA) nilA))) nilA))))))))))))
  (retS (bin2 idxD (vr 1) (calI F__law_take 0 (consA (cst (.int 28)) nilA))))))
def F__law_odd : D → List D → R (D × D) := runI 2 false m__law_odd
def m__law_bent (F0 : D → List D → R (D × D)) : MS := (seqS (ifS (andT (tru (un1 (isiD isTup) (vr 1))) (andT (tst (bin2 neT0 (vr 1) (tupE nilA))) (tst (bin2 gtD (calI F__law_take 0 (consA (cst (.int 5)) nilA)) (cst (.int 0))))))
  (seqS (parS 2 3 (calI F__law_take 0 (consA (callD lenD (consA (vr 1) nilA)) nilA)) (calI F__law_take 0 (consA (cst (.int 9)) nilA)))
  (seqS (ifS (tst (bin2 eqD (vr 3) (cst (.int 0))))
  (retS (bin2 addD (sliE (vr 1) noP (soP (vr 2))) (sliE (vr 1) (soP (bin2 addD (vr 2) (cst (.int 1)))) noP)))
  nxS)
  (seqS (ifS (tst (bin2 eqD (vr 3) (cst (.int 1))))
  (retS (bin2 addD (sliE (vr 1) noP (soP (bin2 addD (vr 2) (cst (.int 1))))) (sliE (vr 1) (soP (vr 2)) noP)))
  nxS)
  (seqS (ifS (tst (bin2 eqD (vr 3) (cst (.int 2))))
  (retS (bin2 addD (bin2 addD (sliE (vr 1) noP (soP (vr 2))) (un1 revD (sliE (vr 1) (soP (vr 2)) (soP (bin2 addD (vr 2) (cst (.int 2))))))) (sliE (vr 1) (soP (bin2 addD (vr 2) (cst (.int 2)))) noP)))
  nxS)
  (retS (bin2 addD (bin2 addD (sliE (vr 1) noP (soP (vr 2))) (tupE (consA (calI F0 0 (consA (bin2 idxD (vr 1) (vr 2)) nilA)) nilA))) (sliE (vr 1) (soP (bin2 addD (vr 2) (cst (.int 1)))) noP)))))))
  nxS)
  (seqS (ifS (tru (un1 (isiD isTup) (vr 1)))
  (retS (bin2 idxD (lstE (consA (callD listD (consA (vr 1) nilA)) (consA (bin2 addD (vr 1) (tupE (consA (calI F__law_odd 0 nilA) nilA))) (consA (un1 revD (vr 1)) (consA (calI F__law_odd 0 nilA) nilA))))) (calI F__law_take 0 (consA (cst (.int 4)) nilA))))
  nxS)
  (seqS (ifS (tru (un1 (isiD isBool) (vr 1)))
  (retS (bin2 idxD (lstE (consA (notV (vr 1)) (consA (callD intD (consA (vr 1) nilA)) (consA (calI F__law_odd 0 nilA) nilA)))) (calI F__law_take 0 (consA (cst (.int 3)) nilA))))
  nxS)
  (seqS (ifS (tru (un1 (isiD isInt) (vr 1)))
  (retS (bin2 idxD (lstE (consA (bin2 addD (vr 1) (cst (.int 1))) (consA (bin2 subD (vr 1) (cst (.int 1))) (consA (bin2 eqD (vr 1) (cst (.int 1))) (consA (calI F__law_odd 0 nilA) (consA (bin2 addD (vr 1) (cst (.int 2))) nilA)))))) (calI F__law_take 0 (consA (cst (.int 5)) nilA))))
  nxS)
  (seqS (ifS (tru (un1 (isiD isStr) (vr 1)))
  (retS (bin2 idxD (lstE (consA (bin2 addD (vr 1) (cst (.str "a"))) (consA (sliE (vr 1) (soP (cst (.int 1))) noP) (consA (un1 revD (vr 1)) (consA (un1 upD (vr 1)) (consA (calI F__law_odd 0 nilA) nilA)))))) (calI F__law_take 0 (consA (cst (.int 5)) nilA))))
  nxS)
  (retS (calI F__law_odd 0 nilA)))))))
def F__law_bent : Nat → D → List D → R (D × D)
  | 0, _, _ => .bad
  | k + 1, d, ds => runI 4 false (m__law_bent (F__law_bent k)) d ds
def m__law_spoilt : MS := (seqS (forM (rng1M (consA (bin2 addD (cst (.int 1)) (calI F__law_take 0 (consA (cst (.int 2)) nilA))) nilA)) (nmG 3)
  (seqS (setS 4 (calI F__law_take 0 (consA (callD lenD (consA (vr 1) nilA)) nilA)))
  (ifS (tst (bin2 eqD (vr 4) (cst (.int 0))))
  (setS 2 (calI (F__law_bent 12) 0 (consA (vr 2) nilA)))
  (setS 1 (bin2 addD (bin2 addD (sliE (vr 1) noP (soP (vr 4))) (tupE (consA (calI (F__law_bent 12) 0 (consA (bin2 idxD (vr 1) (vr 4)) nilA)) nilA))) (sliE (vr 1) (soP (bin2 addD (vr 4) (cst (.int 1)))) noP))))))
  (retS (tupE (consA (vr 1) (consA (vr 2) nilA)))))
def F__law_spoilt : D → List D → R (D × D) := runI 5 false m__law_spoilt
def m__law_room : MS := (seqS (forM (seqM (vr 0)) (tupG 4 (consG (nmG 2) (consG (nmG 3) (consG (nmG 4) (consG (nmG 5) nilG)))))
  (seqS (ifS (andT (tst (bin2 eqD (vr 3) (cst (.int 0)))) (tst (bin2 eqD (vr 1) (vr 2))))
  (retS (vr 4))
  nxS)
  (ifS (andT (tst (bin2 gtD (vr 3) (cst (.int 0)))) (andT (tst (bin2 geD (vr 1) (vr 2))) (tst (bin2 eqD (bin2 modD (bin2 subD (vr 1) (vr 2)) (vr 3)) (cst (.int 0))))))
  (retS (bin2 addD (vr 4) (bin2 mulD (vr 5) (bin2 fdivD (bin2 subD (vr 1) (vr 2)) (vr 3)))))
  nxS)))
  (retS (cst .non)))
def F__law_room : List D → R D := runB 6 false m__law_room
def m__law_shared : MS := (seqS (whS (tst (bin2 gtD (vr 1) (cst (.int 0))))
  (parS 0 1 (vr 1) (bin2 modD (vr 0) (vr 1))) 1000000)
  (retS (vr 0)))
def F__law_shared : List D → R D := runB 2 false m__law_shared
def m__law_spots : MS := (seqS (setS 2 (cst (.int 1)))
  (seqS (forM (seqM (bin2 addD (vr 0) (vr 1))) (nmG 3)
  (setS 2 (bin2 fdivD (bin2 mulD (vr 2) (callD maxD (consA (cst (.int 1)) (consA (bin2 idxD (vr 3) (cst (.int 1))) nilA)))) (calM F__law_shared [] (consA (vr 2) (consA (callD maxD (consA (cst (.int 1)) (consA (bin2 idxD (vr 3) (cst (.int 1))) nilA))) nilA))))))
  (seqS (setO 4 (rngF1 (bin2 mulD (cst (.int 2)) (vr 2))))
  (seqS (forM (seqM (bin2 addD (vr 0) (vr 1))) (tupG 4 (consG (nmG 5) (consG (nmG 6) (consG (nmG 7) (consG (nmG 8) nilG)))))
  (seqS (setS 9 (lstE (consA (vr 5) (consA (bin2 addD (vr 5) (vr 2)) nilA))))
  (seqS (ifS (tst (bin2 gtD (vr 6) (cst (.int 0))))
  (setO 9 (lcM [11] (rng1M (consA (bin2 fdivD (vr 2) (vr 6)) nilA)) (nmG 11) yesT (bin2 addD (vr 5) (bin2 mulD (vr 6) (vr 11)))))
  nxS)
  (forM (seqM (vr 9)) (nmG 10)
  (isL 4 (extS 4 (lstE (consA (vr 10) (consA (bin2 addD (vr 10) (vr 2)) nilA)))))))))
  (frzS (retS (vr 4)))))))
def F__law_spots : List D → R D := runB 12 false m__law_spots
def m__law_are_alike : MS := (retS (callD allD (consA (asL (lcM [2] (seqM (calM F__law_spots [] (consA (vr 0) (consA (vr 1) nilA)))) (nmG 2) yesT (bin2 eqD (calM F__law_room [] (consA (vr 0) (consA (vr 2) nilA))) (calM F__law_room [] (consA (vr 1) (consA (vr 2) nilA)))))) nilA)))
def F__law_are_alike : List D → R D := runB 3 false m__law_are_alike
def m__law_whole : MS := (retS (andV (un1 (isiD isInt) (vr 0)) (andV (notV (un1 (isiD isBool) (vr 0))) (bin2 geD (vr 0) (cst (.int 0))))))
def F__law_whole : List D → R D := runB 1 false m__law_whole
def m__law_is_row : MS := (seqS (ifS (orT (notT (tru (un1 (isiD isTup) (vr 0)))) (orT (tst (bin2 neD (callD lenD (consA (vr 0) nilA)) (cst (.int 4)))) (notT (tru (callD allD (consA (asL (lcM [1] (seqM (vr 0)) (nmG 1) yesT (calM F__law_whole [] (consA (vr 1) nilA)))) nilA))))))
  (retS (cst (.bl false)))
  nxS)
  (retS (andV (bin2 leD (bin2 idxD (vr 0) (cst (.int 1))) (cst (.int 240))) (bin2 eqD (bin2 eqD (bin2 idxD (vr 0) (cst (.int 1))) (cst (.int 0))) (bin2 eqD (bin2 idxD (vr 0) (cst (.int 3))) (cst (.int 0)))))))
def F__law_is_row : List D → R D := runB 2 false m__law_is_row
def m__law_meets : MS := (seqS (ifS (andT (tst (bin2 eqD (vr 1) (cst (.int 0)))) (tst (bin2 eqD (vr 3) (cst (.int 0)))))
  (retS (bin2 eqD (vr 0) (vr 2)))
  nxS)
  (seqS (ifS (tst (bin2 eqD (vr 1) (cst (.int 0))))
  (retS (andV (bin2 geD (vr 0) (vr 2)) (bin2 eqD (bin2 modD (bin2 subD (vr 0) (vr 2)) (vr 3)) (cst (.int 0)))))
  nxS)
  (seqS (ifS (tst (bin2 eqD (vr 3) (cst (.int 0))))
  (retS (andV (bin2 geD (vr 2) (vr 0)) (bin2 eqD (bin2 modD (bin2 subD (vr 2) (vr 0)) (vr 1)) (cst (.int 0)))))
  nxS)
  (retS (bin2 eqD (bin2 modD (bin2 subD (vr 0) (vr 2)) (calM F__law_shared [] (consA (vr 1) (consA (vr 3) nilA)))) (cst (.int 0)))))))
def F__law_meets : List D → R D := runB 4 false m__law_meets
def m__law_fault : MS := (seqS (ifS (orT (notT (tru (un1 (isiD isTup) (vr 0)))) (tst (bin2 gtD (callD lenD (consA (vr 0) nilA)) (cst (.int 60)))))
  (retS (tupE (consA (cst .non) nilA)))
  nxS)
  (seqS (setS 1 (cst (.int 1)))
  (seqS (forM (rng1M (consA (callD lenD (consA (vr 0) nilA)) nilA)) (nmG 2)
  (seqS (setS 3 (bin2 idxD (vr 0) (vr 2)))
  (seqS (ifS (notT (tru (calM F__law_is_row [] (consA (vr 3) nilA))))
  (retS (tupE (consA (vr 2) nilA)))
  nxS)
  (seqS (setS 1 (bin2 fdivD (bin2 mulD (vr 1) (callD maxD (consA (cst (.int 1)) (consA (bin2 idxD (vr 3) (cst (.int 1))) nilA)))) (calM F__law_shared [] (consA (vr 1) (consA (callD maxD (consA (cst (.int 1)) (consA (bin2 idxD (vr 3) (cst (.int 1))) nilA))) nilA)))))
  (seqS (ifS (tst (bin2 gtD (vr 1) (cst (.int 240))))
  (retS (tupE (consA (vr 2) nilA)))
  nxS)
  (forM (seqM (sliE (vr 0) noP (soP (vr 2)))) (nmG 4)
  (ifS (orT (tru (calM F__law_meets [] (consA (bin2 idxD (vr 3) (cst (.int 0))) (consA (bin2 idxD (vr 3) (cst (.int 1))) (consA (bin2 idxD (vr 4) (cst (.int 0))) (consA (bin2 idxD (vr 4) (cst (.int 1))) nilA)))))) (tru (calM F__law_meets [] (consA (bin2 idxD (vr 3) (cst (.int 2))) (consA (bin2 idxD (vr 3) (cst (.int 3))) (consA (bin2 idxD (vr 4) (cst (.int 2))) (consA (bin2 idxD (vr 4) (cst (.int 3))) nilA)))))))
  (retS (tupE (consA (vr 2) nilA)))
  nxS)))))))
  (retS (tupE nilA)))))
def F__law_fault : List D → R D := runB 5 false m__law_fault
def m__law_due : MS := (seqS (ifS (orT (tst (bin2 isNN (vr 1) (cst .non))) (orT (tst (bin2 neT0 (calM F__law_fault [] (consA (bin2 idxD (vr 0) (cst (.int 1))) nilA)) (tupE nilA))) (tst (bin2 neT0 (calM F__law_fault [] (consA (bin2 idxD (vr 0) (cst (.int 2))) nilA)) (tupE nilA)))))
  (retS (cst (.bl false)))
  nxS)
  (seqS (ifS (tst (bin2 eqD (bin2 idxD (vr 0) (cst (.int 0))) (cst (.str "alike"))))
  (retS (calM F__law_are_alike [] (consA (bin2 idxD (vr 0) (cst (.int 1))) (consA (bin2 idxD (vr 0) (cst (.int 2))) nilA))))
  nxS)
  (seqS (ifS (notT (tru (calM F__law_whole [] (consA (bin2 idxD (vr 0) (cst (.int 3))) nilA))))
  (retS (cst (.bl false)))
  nxS)
  (retS (bin2 neD (calM F__law_room [] (consA (bin2 idxD (vr 0) (cst (.int 1))) (consA (bin2 idxD (vr 0) (cst (.int 3))) nilA))) (calM F__law_room [] (consA (bin2 idxD (vr 0) (cst (.int 2))) (consA (bin2 idxD (vr 0) (cst (.int 3))) nilA))))))))
def F__law_due : List D → R D := runB 2 false m__law_due
def m__law_right : MS := (seqS (setS 1 (calI F__law_laying 0 (consA (cst (.bl true)) nilA)))
  (seqS (forM (seqM (calI F__law_claims 0 (consA (vr 1) nilA))) (tupG 2 (consG (nmG 2) (consG (nmG 3) nilG)))
  (seqS (ifS (notT (tru (calM F__law_taken [] (consA (vr 2) (consA (vr 3) (consA (calM F__law_due [] (consA (vr 2) (consA (vr 3) nilA))) nilA))))))
  (retS (cst (.bl false)))
  nxS)
  (seqS (asgS (calI F__law_spoilt 0 (consA (vr 2) (consA (vr 3) nilA))) (tupG 2 (consG (nmG 4) (consG (nmG 5) nilG))))
  (ifS (notT (tru (calM F__law_taken [] (consA (vr 4) (consA (vr 5) (consA (calM F__law_due [] (consA (vr 4) (consA (vr 5) nilA))) nilA))))))
  (retS (cst (.bl false)))
  nxS))))
  (retS (cst (.bl true)))))
def F__law_right : D → List D → R (D × D) := runI 6 false m__law_right
def m__law_purse : MS := (seqS (setS 1 (cst (.int 0)))
  (seqS (ifS (orT (tst (bin2 ltD (vr 0) (cst (.int 0)))) (tst (bin2 geD (vr 0) (bin2 powD (cst (.int 10)) (cst (.int 18))))))
  (setS 1 (callD absD (consA (vr 0) nilA)))
  nxS)
  (retF (szA (consA (bin2 modD (vr 0) (cst (.int 1000000021))) (consA (vr 1) (consA (cst (.int 0)) nilA)))))))
def F__law_purse : List D → R D := runB 2 true m__law_purse
def m__law_cell : MS := (seqS (ifS (tst (bin2 ltD (vr 1) (callD lenD (consA (vr 0) nilA))))
  (retS (bin2 idxD (vr 0) (vr 1)))
  nxS)
  (seqS (setS 2 (bin2 modD (bin2 mulD (cst (.int 70001)) (bin2 addD (bin2 addD (bin2 mulD (vr 1) (vr 1)) (bin2 mulD (cst (.int 9)) (vr 1))) (cst (.int 13)))) (cst (.int 1000000021))))
  (seqS (forM (seqM (sliE (vr 0) noP (soP (cst (.int 3))))) (nmG 3)
  (setS 2 (bin2 modD (bin2 addD (bin2 mulD (vr 2) (cst (.int 40009))) (vr 3)) (cst (.int 1000000021)))))
  (retS (vr 2)))))
def F__law_cell : List D → R D := runB 4 false m__law_cell
def m_law : MS := (seqS (setS 1 (tupE (consA (tupE (consA (bin2 powD (cst (.int 10)) (cst (.int 50))) (consA (cst (.int 1)) (consA (bin2 powD (cst (.int 10)) (cst (.int 50))) (consA (cst (.int 1)) nilA))))) (consA (tupE (consA (bin2 subD (bin2 powD (cst (.int 10)) (cst (.int 50))) (cst (.int 1))) (consA (cst (.int 0)) (consA (bin2 subD (bin2 powD (cst (.int 10)) (cst (.int 50))) (cst (.int 1))) (consA (cst (.int 0)) nilA))))) nilA))))
  (seqS (ifS (notT (tru (calM F__law_taken [] (consA (tupE (consA (cst (.str "alike")) (consA (vr 1) (consA (tupE (consA (tupE (consA (bin2 subD (bin2 powD (cst (.int 10)) (cst (.int 50))) (cst (.int 1))) (consA (cst (.int 1)) (consA (bin2 subD (bin2 powD (cst (.int 10)) (cst (.int 50))) (cst (.int 1))) (consA (cst (.int 1)) nilA))))) nilA)) nilA)))) (consA (cst .non) (consA (cst (.bl true)) nilA))))))
  (retS (cst (.bl false)))
  nxS)
  (retS (callD allD (consA (asL (lcM [2] (rng1M (consA (callD maxD (consA (cst (.int 2)) (consA (callD minD (consA (callD lenD (consA (vr 0) nilA)) (consA (cst (.int 4)) nilA))) nilA))) nilA)) (nmG 2) yesT (caN F__law_right (calF F__law_purse [] (consA (calM F__law_cell [] (consA (vr 0) (consA (vr 2) nilA))) nilA)) nilA))) nilA)))))
def F_law : List D → R D := runB 3 false m_law
/-! ### what the module holds -/
def fnA (K : PySem.W.Frag) : Nat → Option Addr
  | 0 => some (He.ga K "are_alike")
  | 1 => some (He.ga K "are_unlike")
  | _ => none
structure MG (w : World) (K : PySem.W.Frag) (mg : Str → Option Value) : Prop where
  fr_abs : mg "abs" = none
  fr_all : mg "all" = none
  fr_any : mg "any" = none
  fr_bool : mg "bool" = none
  fr_enumerate : mg "enumerate" = none
  fr_int : mg "int" = none
  fr_isinstance : mg "isinstance" = none
  fr_len : mg "len" = none
  fr_list : mg "list" = none
  fr_max : mg "max" = none
  fr_min : mg "min" = none
  fr_range : mg "range" = none
  fr_str : mg "str" = none
  fr_tuple : mg "tuple" = none
  gi_MOST_ROWS : ∃ t, mg "MOST_ROWS" = some (.int 60 t)
  gi_MOST_STEP : ∃ t, mg "MOST_STEP" = some (.int 240 t)
  gf__law_are_alike : mg "_law_are_alike" = some (.ref (He.ga K "_law_are_alike"))
  gf__law_bent : mg "_law_bent" = some (.ref (He.ga K "_law_bent"))
  gf__law_cell : mg "_law_cell" = some (.ref (He.ga K "_law_cell"))
  gf__law_claims : mg "_law_claims" = some (.ref (He.ga K "_law_claims"))
  gf__law_classes : mg "_law_classes" = some (.ref (He.ga K "_law_classes"))
  gf__law_due : mg "_law_due" = some (.ref (He.ga K "_law_due"))
  gf__law_fault : mg "_law_fault" = some (.ref (He.ga K "_law_fault"))
  gf__law_is_row : mg "_law_is_row" = some (.ref (He.ga K "_law_is_row"))
  gf__law_laying : mg "_law_laying" = some (.ref (He.ga K "_law_laying"))
  gf__law_meets : mg "_law_meets" = some (.ref (He.ga K "_law_meets"))
  gf__law_near : mg "_law_near" = some (.ref (He.ga K "_law_near"))
  gf__law_odd : mg "_law_odd" = some (.ref (He.ga K "_law_odd"))
  gf__law_purse : mg "_law_purse" = some (.ref (He.ga K "_law_purse"))
  gf__law_right : mg "_law_right" = some (.ref (He.ga K "_law_right"))
  gf__law_room : mg "_law_room" = some (.ref (He.ga K "_law_room"))
  gf__law_shared : mg "_law_shared" = some (.ref (He.ga K "_law_shared"))
  gf__law_spoilt : mg "_law_spoilt" = some (.ref (He.ga K "_law_spoilt"))
  gf__law_spots : mg "_law_spots" = some (.ref (He.ga K "_law_spots"))
  gf__law_take : mg "_law_take" = some (.ref (He.ga K "_law_take"))
  gf__law_taken : mg "_law_taken" = some (.ref (He.ga K "_law_taken"))
  gf__law_told_otherwise : mg "_law_told_otherwise" = some (.ref (He.ga K "_law_told_otherwise"))
  gf__law_whole : mg "_law_whole" = some (.ref (He.ga K "_law_whole"))
  gf_common : mg "common" = some (.ref (He.ga K "common"))
  gf_divisor : mg "divisor" = some (.ref (He.ga K "divisor"))
  gf_holds : mg "holds" = some (.ref (He.ga K "holds"))
  gf_is_count : mg "is_count" = some (.ref (He.ga K "is_count"))
  gf_is_laying : mg "is_laying" = some (.ref (He.ga K "is_laying"))
  gf_is_row : mg "is_row" = some (.ref (He.ga K "is_row"))
  gf_law : mg "law" = some (.ref (He.ga K "law"))
  gf_lead_alike : mg "lead_alike" = some (.ref (He.ga K "lead_alike"))
  gf_room_at : mg "room_at" = some (.ref (He.ga K "room_at"))
  gf_rows_touch : mg "rows_touch" = some (.ref (He.ga K "rows_touch"))
  gt_CLAIMS : mg "CLAIMS" = some (.ref (He.ga K "CLAIMS"))
  kt_CLAIMS : KTab (kx K (fnA K)) w (He.ga K "CLAIMS") tbl_CLAIMS
  fd_divisor : ∃ fd, FunD K "divisor" "divisor" (defArgs s_divisor) (defBody s_divisor) (defScope s_divisor) [] [] (He.ga K "divisor") fd
  fd_common : ∃ fd, FunD K "common" "common" (defArgs s_common) (defBody s_common) (defScope s_common) [] [] (He.ga K "common") fd
  fd_is_count : ∃ fd, FunD K "is_count" "is_count" (defArgs s_is_count) (defBody s_is_count) (defScope s_is_count) [.int 0, .non] [] (He.ga K "is_count") fd
  fd_is_row : ∃ fd, FunD K "is_row" "is_row" (defArgs s_is_row) (defBody s_is_row) (defScope s_is_row) [] [] (He.ga K "is_row") fd
  fd_rows_touch : ∃ fd, FunD K "rows_touch" "rows_touch" (defArgs s_rows_touch) (defBody s_rows_touch) (defScope s_rows_touch) [] [] (He.ga K "rows_touch") fd
  fd_is_laying : ∃ fd, FunD K "is_laying" "is_laying" (defArgs s_is_laying) (defBody s_is_laying) (defScope s_is_laying) [] [] (He.ga K "is_laying") fd
  fd_room_at : ∃ fd, FunD K "room_at" "room_at" (defArgs s_room_at) (defBody s_room_at) (defScope s_room_at) [] [] (He.ga K "room_at") fd
  fd_lead_alike : ∃ fd, FunD K "lead_alike" "lead_alike" (defArgs s_lead_alike) (defBody s_lead_alike) (defScope s_lead_alike) [] [] (He.ga K "lead_alike") fd
  fd_are_alike : ∃ fd, FunD K "are_alike" "are_alike" (defArgs s_are_alike) (defBody s_are_alike) (defScope s_are_alike) [] [] (He.ga K "are_alike") fd
  fd_are_unlike : ∃ fd, FunD K "are_unlike" "are_unlike" (defArgs s_are_unlike) (defBody s_are_unlike) (defScope s_are_unlike) [] [] (He.ga K "are_unlike") fd
  fd_holds : ∃ fd, FunD K "holds" "holds" (defArgs s_holds) (defBody s_holds) (defScope s_holds) [] [] (He.ga K "holds") fd
  fd__law_taken : ∃ fd, FunD K "_law_taken" "_law_taken" (defArgs s__law_taken) (defBody s__law_taken) (defScope s__law_taken) [] [] (He.ga K "_law_taken") fd
  fd__law_take : ∃ fd, FunD K "_law_take" "_law_take" (defArgs s__law_take) (defBody s__law_take) (defScope s__law_take) [] [] (He.ga K "_law_take") fd
  fd__law_classes : ∃ fd, FunD K "_law_classes" "_law_classes" (defArgs s__law_classes) (defBody s__law_classes) (defScope s__law_classes) [] [] (He.ga K "_law_classes") fd
  fd__law_laying : ∃ fd, FunD K "_law_laying" "_law_laying" (defArgs s__law_laying) (defBody s__law_laying) (defScope s__law_laying) [] [] (He.ga K "_law_laying") fd
  fd__law_told_otherwise : ∃ fd, FunD K "_law_told_otherwise" "_law_told_otherwise" (defArgs s__law_told_otherwise) (defBody s__law_told_otherwise) (defScope s__law_told_otherwise) [] [] (He.ga K "_law_told_otherwise") fd
  fd__law_near : ∃ fd, FunD K "_law_near" "_law_near" (defArgs s__law_near) (defBody s__law_near) (defScope s__law_near) [] [] (He.ga K "_law_near") fd
  fd__law_claims : ∃ fd, FunD K "_law_claims" "_law_claims" (defArgs s__law_claims) (defBody s__law_claims) (defScope s__law_claims) [] [] (He.ga K "_law_claims") fd
  fd__law_odd : ∃ fd, FunD K "_law_odd" "_law_odd" (defArgs s__law_odd) (defBody s__law_odd) (defScope s__law_odd) [] [] (He.ga K "_law_odd") fd
  fd__law_bent : ∃ fd, FunD K "_law_bent" "_law_bent" (defArgs s__law_bent) (defBody s__law_bent) (defScope s__law_bent) [] [] (He.ga K "_law_bent") fd
  fd__law_spoilt : ∃ fd, FunD K "_law_spoilt" "_law_spoilt" (defArgs s__law_spoilt) (defBody s__law_spoilt) (defScope s__law_spoilt) [] [] (He.ga K "_law_spoilt") fd
  fd__law_room : ∃ fd, FunD K "_law_room" "_law_room" (defArgs s__law_room) (defBody s__law_room) (defScope s__law_room) [] [] (He.ga K "_law_room") fd
  fd__law_shared : ∃ fd, FunD K "_law_shared" "_law_shared" (defArgs s__law_shared) (defBody s__law_shared) (defScope s__law_shared) [] [] (He.ga K "_law_shared") fd
  fd__law_spots : ∃ fd, FunD K "_law_spots" "_law_spots" (defArgs s__law_spots) (defBody s__law_spots) (defScope s__law_spots) [] [] (He.ga K "_law_spots") fd
  fd__law_are_alike : ∃ fd, FunD K "_law_are_alike" "_law_are_alike" (defArgs s__law_are_alike) (defBody s__law_are_alike) (defScope s__law_are_alike) [] [] (He.ga K "_law_are_alike") fd
  fd__law_whole : ∃ fd, FunD K "_law_whole" "_law_whole" (defArgs s__law_whole) (defBody s__law_whole) (defScope s__law_whole) [] [] (He.ga K "_law_whole") fd
  fd__law_is_row : ∃ fd, FunD K "_law_is_row" "_law_is_row" (defArgs s__law_is_row) (defBody s__law_is_row) (defScope s__law_is_row) [] [] (He.ga K "_law_is_row") fd
  fd__law_meets : ∃ fd, FunD K "_law_meets" "_law_meets" (defArgs s__law_meets) (defBody s__law_meets) (defScope s__law_meets) [] [] (He.ga K "_law_meets") fd
  fd__law_fault : ∃ fd, FunD K "_law_fault" "_law_fault" (defArgs s__law_fault) (defBody s__law_fault) (defScope s__law_fault) [] [] (He.ga K "_law_fault") fd
  fd__law_due : ∃ fd, FunD K "_law_due" "_law_due" (defArgs s__law_due) (defBody s__law_due) (defScope s__law_due) [] [] (He.ga K "_law_due") fd
  fd__law_right : ∃ fd, FunD K "_law_right" "_law_right" (defArgs s__law_right) (defBody s__law_right) (defScope s__law_right) [] [] (He.ga K "_law_right") fd
  fd__law_purse : ∃ fd, FunD K "_law_purse" "_law_purse" (defArgs s__law_purse) (defBody s__law_purse) (defScope s__law_purse) [] [] (He.ga K "_law_purse") fd
  fd__law_cell : ∃ fd, FunD K "_law_cell" "_law_cell" (defArgs s__law_cell) (defBody s__law_cell) (defScope s__law_cell) [] [] (He.ga K "_law_cell") fd
  fd_law : ∃ fd, FunD K "law" "law" (defArgs s_law) (defBody s_law) (defScope s_law) [] [] (He.ga K "law") fd
variable {P : Program} {w : World} {K : PySem.W.Frag} {mg : Str → Option Value} {base : Heap}
theorem b_divisor {fd : FuncData} (F : FunD K "divisor" "divisor" (defArgs s_divisor) (defBody s_divisor) (defScope s_divisor) [] [] (He.ga K "divisor") fd) : L2.Binds K fd ["one", "other"] [] := F.bindsN fun _ _ _ _ _ _ us hl => match us, hl with | [_, _], _ => rfl
theorem fo_divisor (E : MG w K mg) {fd : FuncData} (F : FunD K "divisor" "divisor" (defArgs s_divisor) (defBody s_divisor) (defScope s_divisor) [] [] (He.ga K "divisor") fd) : FnG P w K mg base CX0 1 (He.ga K "divisor") fd ["one", "other"] (spP (kx K (fnA K)) 2 false F_divisor) := by
  refine fn_P (lv := 0) (n := 2) (NN := 2) (nw := false) (own := []) (fb := m_divisor) (k := kx K (fnA K)) (N := N_divisor) F sc_divisor rfl rfl (by decide) (fun cdv A outer s H E' M H0 W hr => ?_)
  unfold m_divisor
  exact (js_cons (js_while 1000000 PassesOwn.never (jt_cmp (Dn.op_neX hr.units) opd_ne neD_nx (by rfl) (je_var (i := 1) (show 1 ∉ ([] : List Nat) by decide) rfl (.inl (by kernel_rfl))) je_int)
  (js_one (js_par (i := 0) (j := 1) (show 0 ∉ ([] : List Nat) by decide) (free_P rfl) (show 1 ∉ ([] : List Nat) by decide) (free_P rfl) rfl sc_divisor.nd rfl rfl (show (0 : Nat) ≠ 1 by decide) (by kernel_rfl) (by kernel_rfl) (je_var (i := 1) (show 1 ∉ ([] : List Nat) by decide) rfl (.inl (by kernel_rfl))) (je_op op_modN opd_mod modD_nx (je_var (i := 0) (show 0 ∉ ([] : List Nat) by decide) rfl (.inl (by kernel_rfl))) (je_var (i := 1) (show 1 ∉ ([] : List Nat) by decide) rfl (.inl (by kernel_rfl)))) rfl)))
  (js_one (js_ret (je_callB call_abs cad_abs absD_nx (by exact rfl) E.fr_abs PyProof.Rows.boot_abs (ja_cons (je_var (i := 0) (show 0 ∉ ([] : List Nat) by decide) rfl (.inl (by kernel_rfl))) ja_nil)))))
theorem h_divisor_0 (E : MG w K mg) : HeldD P w K mg base 1 (He.ga K "divisor") (spP (kx K (fnA K)) 2 false F_divisor) [] := by
  obtain ⟨fd, F0⟩ := E.fd_divisor
  exact held_N F0 (fo_divisor E F0) (b_divisor F0)
theorem b_common {fd : FuncData} (F : FunD K "common" "common" (defArgs s_common) (defBody s_common) (defScope s_common) [] [] (He.ga K "common") fd) : L2.Binds K fd ["numbers"] [] := F.bindsN fun _ _ _ _ _ _ us hl => match us, hl with | [_], _ => rfl
theorem fo_common (E : MG w K mg) {fd : FuncData} (F : FunD K "common" "common" (defArgs s_common) (defBody s_common) (defScope s_common) [] [] (He.ga K "common") fd) : FnG P w K mg base CX0 2 (He.ga K "common") fd ["numbers"] (spP (kx K (fnA K)) 1 false F_common) := by
  refine fn_P (lv := 1) (n := 1) (NN := 3) (nw := false) (own := []) (fb := m_common) (k := kx K (fnA K)) (N := N_common) F sc_common rfl rfl (by decide) (fun cdv A outer s H E' M H0 W hr => ?_)
  unfold m_common
  exact (js_cons (js_set (i := 1) (show 1 ∉ ([] : List Nat) by decide) (free_P rfl) sc_common.nd rfl (.inl (by kernel_rfl)) (.inl rfl) je_int)
  (js_cons (js_for (nmG_nx 2) PassesOwn.never rfl (ji_seq rfl (je_var (i := 0) (show 0 ∉ ([] : List Nat) by decide) rfl (.inl (by kernel_rfl)))) (jg_name (i := 2) (show 2 ∉ ([] : List Nat) by decide) (free_P rfl) sc_common.nd rfl (.inl (by kernel_rfl)) (.inl rfl))
  (js_one (js_set (i := 1) (show 1 ∉ ([] : List Nat) by decide) (free_P rfl) sc_common.nd rfl (.inl (by kernel_rfl)) (.inl rfl) (je_op Dn.op_divX opd_fdiv fdivD_nx (je_op Dn.op_mulX opd_mul mulD_nx (je_var (i := 1) (show 1 ∉ ([] : List Nat) by decide) rfl (.inl (by kernel_rfl))) (je_var (i := 2) (show 2 ∉ ([] : List Nat) by decide) rfl (.inl (by kernel_rfl)))) (jc_call (h_divisor_0 E) hr (show 1 ≤ 1 by decide) (by exact rfl) E.gf_divisor (fun _ _ => rfl) rfl (consA_len (consA_len nilA_len)) (ja_cons (je_var (i := 1) (show 1 ∉ ([] : List Nat) by decide) rfl (.inl (by kernel_rfl))) (ja_cons (je_var (i := 2) (show 2 ∉ ([] : List Nat) by decide) rfl (.inl (by kernel_rfl))) ja_nil)))))))
  (js_one (js_ret (je_var (i := 1) (show 1 ∉ ([] : List Nat) by decide) rfl (.inl (by kernel_rfl)))))))
theorem h_common_0 (E : MG w K mg) : HeldD P w K mg base 2 (He.ga K "common") (spP (kx K (fnA K)) 1 false F_common) [] := by
  obtain ⟨fd, F0⟩ := E.fd_common
  exact held_N F0 (fo_common E F0) (b_common F0)
theorem fo_is_count (E : MG w K mg) {fd : FuncData} (F : FunD K "is_count" "is_count" (defArgs s_is_count) (defBody s_is_count) (defScope s_is_count) [.int 0, .non] [] (He.ga K "is_count") fd) : FnG P w K mg base CX0 1 (He.ga K "is_count") fd ["thing", "least", "most"] (spP (kx K (fnA K)) 3 false F_is_count) := by
  refine fn_P (lv := 0) (n := 3) (NN := 3) (nw := false) (own := []) (fb := m_is_count) (k := kx K (fnA K)) (N := N_is_count) F sc_is_count rfl rfl (by decide) (fun cdv A outer s H E' M H0 W hr => ?_)
  unfold m_is_count
  exact (js_cons (js_if (PW.pt (jw_or (jt_tru rfl (je_isi isiBool rfl (by exact rfl) E.fr_isinstance (by exact rfl) E.fr_bool PyProof.Rows.boot_bool (je_var (i := 0) (show 0 ∉ ([] : List Nat) by decide) rfl (.inl (by kernel_rfl))))) (jw_or1 (jt_not (jt_tru rfl (je_isi isiInt rfl (by exact rfl) E.fr_isinstance (by exact rfl) E.fr_int PyProof.Rows.boot_int (je_var (i := 0) (show 0 ∉ ([] : List Nat) by decide) rfl (.inl (by kernel_rfl))))))))) (js_one (js_ret je_bl)) js_nil)
  (js_one (js_ret (je_and (je_cmp op_ge opd_ge geD_nx (by rfl) (je_var (i := 0) (show 0 ∉ ([] : List Nat) by decide) rfl (.inl (by kernel_rfl))) (je_var (i := 1) (show 1 ∉ ([] : List Nat) by decide) rfl (.inl (by kernel_rfl)))) (je_one (je_or (je_cmp op_isN opd_isN isN_nx (by rfl) (je_var (i := 2) (show 2 ∉ ([] : List Nat) by decide) rfl (.inl (by kernel_rfl))) je_non) (je_one (je_cmp op_le opd_le leD_nx (by rfl) (je_var (i := 0) (show 0 ∉ ([] : List Nat) by decide) rfl (.inl (by kernel_rfl))) (je_var (i := 2) (show 2 ∉ ([] : List Nat) by decide) rfl (.inl (by kernel_rfl)))))))))))
theorem h_is_count_0 (E : MG w K mg) : HeldD P w K mg base 1 (He.ga K "is_count") (spP (kx K (fnA K)) 3 false F_is_count) [.int 0, .non] := by
  obtain ⟨fd, F0⟩ := E.fd_is_count
  exact held_D F0 (fo_is_count E F0) (F0.binds1 (ps := ["thing", "least", "most"]) 1 0 (by decide) rfl fun _ _ _ _ _ _ _ us its hl hi => match us, its, hl, hi with | [_], [_, _], _, _ => ⟨_, rfl, rfl⟩)
theorem b_is_row {fd : FuncData} (F : FunD K "is_row" "is_row" (defArgs s_is_row) (defBody s_is_row) (defScope s_is_row) [] [] (He.ga K "is_row") fd) : L2.Binds K fd ["thing"] [] := F.bindsN fun _ _ _ _ _ _ us hl => match us, hl with | [_], _ => rfl
theorem fo_is_row (E : MG w K mg) {fd : FuncData} (F : FunD K "is_row" "is_row" (defArgs s_is_row) (defBody s_is_row) (defScope s_is_row) [] [] (He.ga K "is_row") fd) : FnG P w K mg base CX0 2 (He.ga K "is_row") fd ["thing"] (spP (kx K (fnA K)) 1 false F_is_row) := by
  refine fn_P (lv := 1) (n := 1) (NN := 2) (nw := false) (own := []) (fb := m_is_row) (k := kx K (fnA K)) (N := N_is_row) F sc_is_row rfl rfl (by decide) (fun cdv A outer s H E' M H0 W hr => ?_)
  unfold m_is_row
  exact (js_cons (js_if (PW.pt (jw_or (jt_not (jt_tru rfl (je_isi isiTup rfl (by exact rfl) E.fr_isinstance (by exact rfl) E.fr_tuple PyProof.Rows.boot_tuple (je_var (i := 0) (show 0 ∉ ([] : List Nat) by decide) rfl (.inl (by kernel_rfl)))))) (jw_or (jt_cmp (Dn.op_neX hr.units) opd_ne neD_nx (by rfl) (je_callB call_lenX cad_len lenD_nx (by exact rfl) E.fr_len PySem.boot_len (ja_cons (je_var (i := 0) (show 0 ∉ ([] : List Nat) by decide) rfl (.inl (by kernel_rfl))) ja_nil)) je_int) (jw_or1 (jt_not (jt_tru rfl (je_callB (cr_all rfl) cad_all allD_nx (by exact rfl) E.fr_all PyProof.Rows.boot_all (ja_cons (je_of (jf_lc (own := [("part", 1)]) rfl sc_is_row.nd (okv_P rfl (show ∀ v ∈ ([1] : List Nat), v ∉ ([] : List Nat) by decide)) (ji_seq rfl (je_var (i := 0) (show 0 ∉ ([] : List Nat) by decide) rfl (.inl (by kernel_rfl)))) (blkOk_by (own := [("part", 1)]) (N := N_is_row) (sc := defScope s_is_row) (by decide +kernel)) (fun _ _ _ _ _ _ => (jv_name (i := 1) (by decide) (show 1 ∉ ([] : List Nat) by decide) (free_P rfl) sc_is_row.nd rfl (.inl (by kernel_rfl)) (.inr (by kernel_rfl)))) (fun _ _ _ _ _ _ => jts_nil) (fun _ _ _ _ _ _ => (jc_call (h_is_count_0 E) hr (show 1 ≤ 1 by decide) (by exact rfl) E.gf_is_count (fun _ _ => ⟨_, _, rfl, rfl, ⟨_, _, rfl, rfl, rfl⟩⟩) rfl (consA_len nilA_len) (ja_cons (je_var (i := 1) (show 1 ∉ ([] : List Nat) by decide) rfl (.inl (by kernel_rfl))) ja_nil))))) ja_nil)))))))) (js_one (js_ret je_bl)) js_nil)
  (js_one (js_ret (je_and (je_cmp (Dn.op_eqX hr.units) opd_eq eqD_nx (by rfl) (je_cmp op_gt opd_gt gtD_nx (by rfl) (je_ix rfl (fun _ _ => rfl) (je_var (i := 0) (show 0 ∉ ([] : List Nat) by decide) rfl (.inl (by kernel_rfl))) je_int) je_int) (je_cmp op_gt opd_gt gtD_nx (by rfl) (je_ix rfl (fun _ _ => rfl) (je_var (i := 0) (show 0 ∉ ([] : List Nat) by decide) rfl (.inl (by kernel_rfl))) je_int) je_int)) (je_one (je_cmp op_le opd_le leD_nx (by rfl) (je_ix rfl (fun _ _ => rfl) (je_var (i := 0) (show 0 ∉ ([] : List Nat) by decide) rfl (.inl (by kernel_rfl))) je_int) (je_gi E.gi_MOST_STEP (by exact rfl))))))))
theorem h_is_row_0 (E : MG w K mg) : HeldD P w K mg base 2 (He.ga K "is_row") (spP (kx K (fnA K)) 1 false F_is_row) [] := by
  obtain ⟨fd, F0⟩ := E.fd_is_row
  exact held_N F0 (fo_is_row E F0) (b_is_row F0)
theorem b_rows_touch {fd : FuncData} (F : FunD K "rows_touch" "rows_touch" (defArgs s_rows_touch) (defBody s_rows_touch) (defScope s_rows_touch) [] [] (He.ga K "rows_touch") fd) : L2.Binds K fd ["one", "step", "other", "pace"] [] := F.bindsN fun _ _ _ _ _ _ us hl => match us, hl with | [_, _, _, _], _ => rfl
theorem fo_rows_touch (E : MG w K mg) {fd : FuncData} (F : FunD K "rows_touch" "rows_touch" (defArgs s_rows_touch) (defBody s_rows_touch) (defScope s_rows_touch) [] [] (He.ga K "rows_touch") fd) (B : L2.Binds K fd ["one", "step", "other", "pace"] []) : ∀ k, FnG P w K mg base CX0 (1 + k + 1) (He.ga K "rows_touch") fd ["one", "step", "other", "pace"] (spP (kx K (fnA K)) 4 false (F_rows_touch k))
  | 0 => by
    refine fnG_of F sc_rows_touch (fun vs H Q E h => ?_) (fun cdv A outer s H vs Q E hr hsp => ?_)
    · obtain ⟨M, ds, h1, _⟩ := h
      rw [h1] <;> rfl
    · obtain ⟨M, ds, _, _, _, h⟩ := hsp
      exact h.elim
  | k + 1 => by
    have A0 : HeldD P w K mg base (1 + k + 1) (He.ga K "rows_touch") (spP (kx K (fnA K)) 4 false (F_rows_touch k)) [] := held_N F (fo_rows_touch E F B k) B
    refine fn_P (lv := 1 + k + 1) (n := 4) (NN := 4) (nw := false) (own := []) (fb := m_rows_touch (F_rows_touch k)) (k := kx K (fnA K)) (N := N_rows_touch) F sc_rows_touch rfl rfl (by decide) (fun cdv A outer s H E' M H0 W hr => ?_)
    have hle := Nat.le_refl (1 + k + 1)
    unfold m_rows_touch
    exact (js_cons (js_if (PW.pt (jw_and (jt_cmp (Dn.op_eqX hr.units) opd_eq eqD_nx (by rfl) (je_var (i := 1) (show 1 ∉ ([] : List Nat) by decide) rfl (.inl (by kernel_rfl))) je_int) (jw_and1 (jt_cmp (Dn.op_eqX hr.units) opd_eq eqD_nx (by rfl) (je_var (i := 3) (show 3 ∉ ([] : List Nat) by decide) rfl (.inl (by kernel_rfl))) je_int)))) (js_one (js_ret (je_cmp (Dn.op_eqX hr.units) opd_eq eqD_nx (by rfl) (je_var (i := 0) (show 0 ∉ ([] : List Nat) by decide) rfl (.inl (by kernel_rfl))) (je_var (i := 2) (show 2 ∉ ([] : List Nat) by decide) rfl (.inl (by kernel_rfl)))))) js_nil)
  (js_cons (js_if (jt_cmp (Dn.op_eqX hr.units) opd_eq eqD_nx (by rfl) (je_var (i := 1) (show 1 ∉ ([] : List Nat) by decide) rfl (.inl (by kernel_rfl))) je_int) (js_one (js_ret (je_and (je_cmp op_ge opd_ge geD_nx (by rfl) (je_var (i := 0) (show 0 ∉ ([] : List Nat) by decide) rfl (.inl (by kernel_rfl))) (je_var (i := 2) (show 2 ∉ ([] : List Nat) by decide) rfl (.inl (by kernel_rfl)))) (je_one (je_cmp (Dn.op_eqX hr.units) opd_eq eqD_nx (by rfl) (je_op op_modN opd_mod modD_nx (je_op op_sub opd_sub subD_nx (je_var (i := 0) (show 0 ∉ ([] : List Nat) by decide) rfl (.inl (by kernel_rfl))) (je_var (i := 2) (show 2 ∉ ([] : List Nat) by decide) rfl (.inl (by kernel_rfl)))) (je_var (i := 3) (show 3 ∉ ([] : List Nat) by decide) rfl (.inl (by kernel_rfl)))) je_int))))) js_nil)
  (js_cons (js_if (jt_cmp (Dn.op_eqX hr.units) opd_eq eqD_nx (by rfl) (je_var (i := 3) (show 3 ∉ ([] : List Nat) by decide) rfl (.inl (by kernel_rfl))) je_int) (js_one (js_ret (jc_call (A0) hr hle (by exact rfl) E.gf_rows_touch (fun _ _ => rfl) rfl (consA_len (consA_len (consA_len (consA_len nilA_len)))) (ja_cons (je_var (i := 2) (show 2 ∉ ([] : List Nat) by decide) rfl (.inl (by kernel_rfl))) (ja_cons (je_var (i := 3) (show 3 ∉ ([] : List Nat) by decide) rfl (.inl (by kernel_rfl))) (ja_cons (je_var (i := 0) (show 0 ∉ ([] : List Nat) by decide) rfl (.inl (by kernel_rfl))) (ja_cons (je_var (i := 1) (show 1 ∉ ([] : List Nat) by decide) rfl (.inl (by kernel_rfl))) ja_nil))))))) js_nil)
  (js_one (js_ret (je_cmp (Dn.op_eqX hr.units) opd_eq eqD_nx (by rfl) (je_op op_modN opd_mod modD_nx (je_op op_sub opd_sub subD_nx (je_var (i := 0) (show 0 ∉ ([] : List Nat) by decide) rfl (.inl (by kernel_rfl))) (je_var (i := 2) (show 2 ∉ ([] : List Nat) by decide) rfl (.inl (by kernel_rfl)))) (jc_call (h_divisor_0 E) hr (show 1 ≤ 1 + k + 1 by omega) (by exact rfl) E.gf_divisor (fun _ _ => rfl) rfl (consA_len (consA_len nilA_len)) (ja_cons (je_var (i := 1) (show 1 ∉ ([] : List Nat) by decide) rfl (.inl (by kernel_rfl))) (ja_cons (je_var (i := 3) (show 3 ∉ ([] : List Nat) by decide) rfl (.inl (by kernel_rfl))) ja_nil)))) je_int))))))
theorem h_rows_touch_0 (E : MG w K mg) (k : Nat) : HeldD P w K mg base (1 + k + 1) (He.ga K "rows_touch") (spP (kx K (fnA K)) 4 false (F_rows_touch k)) [] := by
  obtain ⟨fd, F0⟩ := E.fd_rows_touch
  exact held_N F0 (fo_rows_touch E F0 (b_rows_touch F0) k) (b_rows_touch F0)
theorem b_is_laying {fd : FuncData} (F : FunD K "is_laying" "is_laying" (defArgs s_is_laying) (defBody s_is_laying) (defScope s_is_laying) [] [] (He.ga K "is_laying") fd) : L2.Binds K fd ["thing"] [] := F.bindsN fun _ _ _ _ _ _ us hl => match us, hl with | [_], _ => rfl
theorem fo_is_laying (E : MG w K mg) {fd : FuncData} (F : FunD K "is_laying" "is_laying" (defArgs s_is_laying) (defBody s_is_laying) (defScope s_is_laying) [] [] (He.ga K "is_laying") fd) : FnG P w K mg base CX0 5 (He.ga K "is_laying") fd ["thing"] (spP (kx K (fnA K)) 1 false F_is_laying) := by
  refine fn_P (lv := 4) (n := 1) (NN := 5) (nw := false) (own := []) (fb := m_is_laying) (k := kx K (fnA K)) (N := N_is_laying) F sc_is_laying rfl rfl (by decide) (fun cdv A outer s H E' M H0 W hr => ?_)
  unfold m_is_laying
  exact (js_cons (js_if (PW.pt (jw_or (jt_not (jt_tru rfl (je_isi isiTup rfl (by exact rfl) E.fr_isinstance (by exact rfl) E.fr_tuple PyProof.Rows.boot_tuple (je_var (i := 0) (show 0 ∉ ([] : List Nat) by decide) rfl (.inr (.inl (by kernel_rfl))))))) (jw_or (jt_cmp op_gt opd_gt gtD_nx (by rfl) (je_callB call_lenX cad_len lenD_nx (by exact rfl) E.fr_len PySem.boot_len (ja_cons (je_var (i := 0) (show 0 ∉ ([] : List Nat) by decide) rfl (.inr (.inl (by kernel_rfl)))) ja_nil)) (je_gi E.gi_MOST_ROWS (by exact rfl))) (jw_or1 (jt_not (jt_tru rfl (je_callB (cr_all rfl) cad_all allD_nx (by exact rfl) E.fr_all PyProof.Rows.boot_all (ja_cons (je_of (jf_lc (own := [("row", 3)]) rfl sc_is_laying.nd (okv_P rfl (show ∀ v ∈ ([3] : List Nat), v ∉ ([] : List Nat) by decide)) (ji_seq rfl (je_var (i := 0) (show 0 ∉ ([] : List Nat) by decide) rfl (.inr (.inl (by kernel_rfl))))) (blkOk_by (own := [("row", 3)]) (N := N_is_laying) (sc := defScope s_is_laying) (by decide +kernel)) (fun _ _ _ _ _ _ => (jv_name (i := 3) (by decide) (show 3 ∉ ([] : List Nat) by decide) (free_P rfl) sc_is_laying.nd rfl (.inl (by kernel_rfl)) (.inr (by kernel_rfl)))) (fun _ _ _ _ _ _ => jts_nil) (fun _ _ _ _ _ _ => (jc_call (h_is_row_0 E) hr (show 2 ≤ 4 by decide) (by exact rfl) E.gf_is_row (fun _ _ => rfl) rfl (consA_len nilA_len) (ja_cons (je_var (i := 3) (show 3 ∉ ([] : List Nat) by decide) rfl (.inl (by kernel_rfl))) ja_nil))))) ja_nil)))))))) (js_one (js_ret je_bl)) js_nil)
  (js_cons (js_if (jt_cmp op_gt opd_gt gtD_nx (by rfl) (jc_call (h_common_0 E) hr (show 2 ≤ 4 by decide) (by exact rfl) E.gf_common (fun _ _ => rfl) rfl (consA_len nilA_len) (ja_cons (je_of (jf_lc (own := [("row", 3)]) rfl sc_is_laying.nd (okv_P rfl (show ∀ v ∈ ([3] : List Nat), v ∉ ([] : List Nat) by decide)) (ji_seq rfl (je_var (i := 0) (show 0 ∉ ([] : List Nat) by decide) rfl (.inr (.inl (by kernel_rfl))))) (blkOk_by (own := [("row", 3)]) (N := N_is_laying) (sc := defScope s_is_laying) (by decide +kernel)) (fun _ _ _ _ _ _ => (jv_name (i := 3) (by decide) (show 3 ∉ ([] : List Nat) by decide) (free_P rfl) sc_is_laying.nd rfl (.inl (by kernel_rfl)) (.inr (by kernel_rfl)))) (fun _ _ _ _ _ _ => (jts_one (jt_cmp op_gt opd_gt gtD_nx (by rfl) (je_ix rfl (fun _ _ => rfl) (je_var (i := 3) (show 3 ∉ ([] : List Nat) by decide) rfl (.inl (by kernel_rfl))) je_int) je_int))) (fun _ _ _ _ _ _ => (je_ix rfl (fun _ _ => rfl) (je_var (i := 3) (show 3 ∉ ([] : List Nat) by decide) rfl (.inl (by kernel_rfl))) je_int)))) ja_nil)) (je_gi E.gi_MOST_STEP (by exact rfl))) (js_one (js_ret je_bl)) js_nil)
  (js_cons (js_setLc2 (i := 1) (own := [("place", 2), ("row", 3), ("mate", 4)]) (.inl ⟨(show 1 ∉ ([] : List Nat) by decide), (free_P rfl)⟩) rfl sc_is_laying.nd rfl (by kernel_rfl) (sw_true rfl (by kernel_rfl) rfl (by kernel_rfl)) (okv_P rfl (show ∀ v ∈ ([2, 3, 4] : List Nat), v ∉ ([] : List Nat) by decide)) (vs1 := [4]) (show ∀ v ∈ ([4] : List Nat), v ∈ ([2, 3, 4] : List Nat) by decide) (ji_enum rfl (by exact rfl) E.fr_enumerate (ja_cons (je_var (i := 0) (show 0 ∉ ([] : List Nat) by decide) rfl (.inr (.inl (by kernel_rfl)))) ja_nil)) (blkOk_by (own := [("place", 2), ("row", 3), ("mate", 4)]) (N := N_is_laying) (sc := defScope s_is_laying) (by decide +kernel)) (fun _ _ _ _ _ _ => (jv_tup rfl rfl (jvs_cons (jv_name (i := 2) (by decide) (show 2 ∉ ([] : List Nat) by decide) (free_P rfl) sc_is_laying.nd rfl (.inl (by kernel_rfl)) (.inr (by kernel_rfl))) (jvs_cons (jv_name (i := 3) (by decide) (show 3 ∉ ([] : List Nat) by decide) (free_P rfl) sc_is_laying.nd rfl (.inl (by kernel_rfl)) (.inr (by kernel_rfl))) jvs_nil)))) (fun _ _ _ _ _ _ => jts_nil) (fun _ _ _ _ _ _ => (ji_seq rfl (je_sli rfl (je_var (i := 0) (show 0 ∉ ([] : List Nat) by decide) rfl (.inr (.inl (by kernel_rfl)))) jo_none (jo_some (je_var (i := 2) (show 2 ∉ ([] : List Nat) by decide) rfl (.inl (by kernel_rfl))))))) (fun _ _ _ _ _ _ => (jv_name (i := 4) (by decide) (show 4 ∉ ([] : List Nat) by decide) (free_P rfl) sc_is_laying.nd rfl (.inl (by kernel_rfl)) (.inr (by kernel_rfl)))) (fun _ _ _ _ _ _ => jts_nil) (fun _ _ _ _ _ _ => (je_tup (ja_cons (je_var (i := 3) (show 3 ∉ ([] : List Nat) by decide) rfl (.inl (by kernel_rfl))) (ja_cons (je_var (i := 4) (show 4 ∉ ([] : List Nat) by decide) rfl (.inl (by kernel_rfl))) ja_nil)))))
  (js_one (js_ret (je_not (je_callB (cr_any rfl) cad_any anyD_nx (by exact rfl) E.fr_any PyProof.Rows.boot_any (ja_cons (je_of (jf_lc (own := [("row", 3), ("mate", 4)]) rfl sc_is_laying.nd (okv_P rfl (show ∀ v ∈ ([3, 4] : List Nat), v ∉ ([] : List Nat) by decide)) (ji_seq rfl (je_var (i := 1) (show 1 ∉ ([] : List Nat) by decide) rfl (.inl (by kernel_rfl)))) (blkOk_by (own := [("row", 3), ("mate", 4)]) (N := N_is_laying) (sc := defScope s_is_laying) (by decide +kernel)) (fun _ _ _ _ _ _ => (jv_tup rfl rfl (jvs_cons (jv_name (i := 3) (by decide) (show 3 ∉ ([] : List Nat) by decide) (free_P rfl) sc_is_laying.nd rfl (.inl (by kernel_rfl)) (.inr (by kernel_rfl))) (jvs_cons (jv_name (i := 4) (by decide) (show 4 ∉ ([] : List Nat) by decide) (free_P rfl) sc_is_laying.nd rfl (.inl (by kernel_rfl)) (.inr (by kernel_rfl))) jvs_nil)))) (fun _ _ _ _ _ _ => jts_nil) (fun _ _ _ _ _ _ => (je_or (jc_call (h_rows_touch_0 E 2) hr (show 1 + 2 + 1 ≤ 4 by decide) (by exact rfl) E.gf_rows_touch (fun _ _ => rfl) rfl (consA_len (consA_len (consA_len (consA_len nilA_len)))) (ja_cons (je_ix rfl (fun _ _ => rfl) (je_var (i := 3) (show 3 ∉ ([] : List Nat) by decide) rfl (.inl (by kernel_rfl))) je_int) (ja_cons (je_ix rfl (fun _ _ => rfl) (je_var (i := 3) (show 3 ∉ ([] : List Nat) by decide) rfl (.inl (by kernel_rfl))) je_int) (ja_cons (je_ix rfl (fun _ _ => rfl) (je_var (i := 4) (show 4 ∉ ([] : List Nat) by decide) rfl (.inl (by kernel_rfl))) je_int) (ja_cons (je_ix rfl (fun _ _ => rfl) (je_var (i := 4) (show 4 ∉ ([] : List Nat) by decide) rfl (.inl (by kernel_rfl))) je_int) ja_nil))))) (je_one (jc_call (h_rows_touch_0 E 2) hr (show 1 + 2 + 1 ≤ 4 by decide) (by exact rfl) E.gf_rows_touch (fun _ _ => rfl) rfl (consA_len (consA_len (consA_len (consA_len nilA_len)))) (ja_cons (je_ix rfl (fun _ _ => rfl) (je_var (i := 3) (show 3 ∉ ([] : List Nat) by decide) rfl (.inl (by kernel_rfl))) je_int) (ja_cons (je_ix rfl (fun _ _ => rfl) (je_var (i := 3) (show 3 ∉ ([] : List Nat) by decide) rfl (.inl (by kernel_rfl))) je_int) (ja_cons (je_ix rfl (fun _ _ => rfl) (je_var (i := 4) (show 4 ∉ ([] : List Nat) by decide) rfl (.inl (by kernel_rfl))) je_int) (ja_cons (je_ix rfl (fun _ _ => rfl) (je_var (i := 4) (show 4 ∉ ([] : List Nat) by decide) rfl (.inl (by kernel_rfl))) je_int) ja_nil)))))))))) ja_nil))))))))
theorem h_is_laying_0 (E : MG w K mg) : HeldD P w K mg base 5 (He.ga K "is_laying") (spP (kx K (fnA K)) 1 false F_is_laying) [] := by
  obtain ⟨fd, F0⟩ := E.fd_is_laying
  exact held_N F0 (fo_is_laying E F0) (b_is_laying F0)
theorem b_room_at {fd : FuncData} (F : FunD K "room_at" "room_at" (defArgs s_room_at) (defBody s_room_at) (defScope s_room_at) [] [] (He.ga K "room_at") fd) : L2.Binds K fd ["laying", "number"] [] := F.bindsN fun _ _ _ _ _ _ us hl => match us, hl with | [_, _], _ => rfl
theorem fo_room_at (E : MG w K mg) {fd : FuncData} (F : FunD K "room_at" "room_at" (defArgs s_room_at) (defBody s_room_at) (defScope s_room_at) [] [] (He.ga K "room_at") fd) : FnG P w K mg base CX0 1 (He.ga K "room_at") fd ["laying", "number"] (spP (kx K (fnA K)) 2 false F_room_at) := by
  refine fn_P (lv := 0) (n := 2) (NN := 6) (nw := false) (own := []) (fb := m_room_at) (k := kx K (fnA K)) (N := N_room_at) F sc_room_at rfl rfl (by decide) (fun cdv A outer s H E' M H0 W hr => ?_)
  unfold m_room_at
  exact (js_cons (js_for (tupG_nx (consG_nx (nmG_nx 2) (consG_nx (nmG_nx 3) (consG_nx (nmG_nx 4) (consG_nx (nmG_nx 5) nilG_nx))))) PassesOwn.never rfl (ji_seq rfl (je_var (i := 0) (show 0 ∉ ([] : List Nat) by decide) rfl (.inl (by kernel_rfl)))) (jg_tup rfl rfl (jgs_cons (jg_name (i := 2) (show 2 ∉ ([] : List Nat) by decide) (free_P rfl) sc_room_at.nd rfl (.inl (by kernel_rfl)) (.inl rfl)) (jgs_cons (jg_name (i := 3) (show 3 ∉ ([] : List Nat) by decide) (free_P rfl) sc_room_at.nd rfl (.inl (by kernel_rfl)) (.inl rfl)) (jgs_cons (jg_name (i := 4) (show 4 ∉ ([] : List Nat) by decide) (free_P rfl) sc_room_at.nd rfl (.inl (by kernel_rfl)) (.inl rfl)) (jgs_cons (jg_name (i := 5) (show 5 ∉ ([] : List Nat) by decide) (free_P rfl) sc_room_at.nd rfl (.inl (by kernel_rfl)) (.inl rfl)) jgs_nil)))))
  (js_cons (js_if (PW.pt (jw_and (jt_cmp (Dn.op_eqX hr.units) opd_eq eqD_nx (by rfl) (je_var (i := 3) (show 3 ∉ ([] : List Nat) by decide) rfl (.inl (by kernel_rfl))) je_int) (jw_and1 (jt_cmp (Dn.op_eqX hr.units) opd_eq eqD_nx (by rfl) (je_var (i := 2) (show 2 ∉ ([] : List Nat) by decide) rfl (.inl (by kernel_rfl))) (je_var (i := 1) (show 1 ∉ ([] : List Nat) by decide) rfl (.inl (by kernel_rfl))))))) (js_one (js_ret (je_var (i := 4) (show 4 ∉ ([] : List Nat) by decide) rfl (.inl (by kernel_rfl))))) js_nil)
  (js_one (js_if (PW.pt (jw_and (jt_cmp op_gt opd_gt gtD_nx (by rfl) (je_var (i := 3) (show 3 ∉ ([] : List Nat) by decide) rfl (.inl (by kernel_rfl))) je_int) (jw_and (jt_cmp op_ge opd_ge geD_nx (by rfl) (je_var (i := 1) (show 1 ∉ ([] : List Nat) by decide) rfl (.inl (by kernel_rfl))) (je_var (i := 2) (show 2 ∉ ([] : List Nat) by decide) rfl (.inl (by kernel_rfl)))) (jw_and1 (jt_cmp (Dn.op_eqX hr.units) opd_eq eqD_nx (by rfl) (je_op op_modN opd_mod modD_nx (je_op op_sub opd_sub subD_nx (je_var (i := 1) (show 1 ∉ ([] : List Nat) by decide) rfl (.inl (by kernel_rfl))) (je_var (i := 2) (show 2 ∉ ([] : List Nat) by decide) rfl (.inl (by kernel_rfl)))) (je_var (i := 3) (show 3 ∉ ([] : List Nat) by decide) rfl (.inl (by kernel_rfl)))) je_int))))) (js_one (js_ret (je_op Dn.op_addX opd_add addD_nx (je_var (i := 4) (show 4 ∉ ([] : List Nat) by decide) rfl (.inl (by kernel_rfl))) (je_op Dn.op_mulX opd_mul mulD_nx (je_var (i := 5) (show 5 ∉ ([] : List Nat) by decide) rfl (.inl (by kernel_rfl))) (je_op Dn.op_divX opd_fdiv fdivD_nx (je_op op_sub opd_sub subD_nx (je_var (i := 1) (show 1 ∉ ([] : List Nat) by decide) rfl (.inl (by kernel_rfl))) (je_var (i := 2) (show 2 ∉ ([] : List Nat) by decide) rfl (.inl (by kernel_rfl)))) (je_var (i := 3) (show 3 ∉ ([] : List Nat) by decide) rfl (.inl (by kernel_rfl)))))))) js_nil))))
  (js_one (js_ret je_non)))
theorem h_room_at_0 (E : MG w K mg) : HeldD P w K mg base 1 (He.ga K "room_at") (spP (kx K (fnA K)) 2 false F_room_at) [] := by
  obtain ⟨fd, F0⟩ := E.fd_room_at
  exact held_N F0 (fo_room_at E F0) (b_room_at F0)
theorem b_lead_alike {fd : FuncData} (F : FunD K "lead_alike" "lead_alike" (defArgs s_lead_alike) (defBody s_lead_alike) (defScope s_lead_alike) [] [] (He.ga K "lead_alike") fd) : L2.Binds K fd ["one", "other"] [] := F.bindsN fun _ _ _ _ _ _ us hl => match us, hl with | [_, _], _ => rfl
theorem fo_lead_alike (E : MG w K mg) {fd : FuncData} (F : FunD K "lead_alike" "lead_alike" (defArgs s_lead_alike) (defBody s_lead_alike) (defScope s_lead_alike) [] [] (He.ga K "lead_alike") fd) : FnG P w K mg base CX0 3 (He.ga K "lead_alike") fd ["one", "other"] (spP (kx K (fnA K)) 2 false F_lead_alike) := by
  refine fn_P (lv := 2) (n := 2) (NN := 14) (nw := false) (own := [4]) (fb := m_lead_alike) (k := kx K (fnA K)) (N := N_lead_alike) F sc_lead_alike rfl rfl (by decide) (fun cdv A outer s H E' M H0 W hr => ?_)
  unfold m_lead_alike
  exact (js_cons (js_set (i := 2) (show 2 ∉ ([4] : List Nat) by decide) (free_P rfl) sc_lead_alike.nd rfl (.inl (by kernel_rfl)) (.inl rfl) (je_op Dn.op_addX opd_add addD_nx (je_var (i := 0) (show 0 ∉ ([4] : List Nat) by decide) rfl (.inr (.inl (by kernel_rfl)))) (je_var (i := 1) (show 1 ∉ ([4] : List Nat) by decide) rfl (.inr (.inl (by kernel_rfl))))))
  (js_cons (js_set (i := 3) (show 3 ∉ ([4] : List Nat) by decide) (free_P rfl) sc_lead_alike.nd rfl (.inr (by kernel_rfl)) (.inl rfl) (jc_call (h_common_0 E) hr (show 2 ≤ 2 by decide) (by exact rfl) E.gf_common (fun _ _ => rfl) rfl (consA_len nilA_len) (ja_cons (je_of (jf_lc (own := [("row", 11)]) rfl sc_lead_alike.nd (okv_P rfl (show ∀ v ∈ ([11] : List Nat), v ∉ ([4] : List Nat) by decide)) (ji_seq rfl (je_var (i := 2) (show 2 ∉ ([4] : List Nat) by decide) rfl (.inl (by kernel_rfl)))) (blkOk_by (own := [("row", 11)]) (N := N_lead_alike) (sc := defScope s_lead_alike) (by decide +kernel)) (fun _ _ _ _ _ _ => (jv_name (i := 11) (by decide) (show 11 ∉ ([4] : List Nat) by decide) (free_P rfl) sc_lead_alike.nd rfl (.inl (by kernel_rfl)) (.inr (by kernel_rfl)))) (fun _ _ _ _ _ _ => (jts_one (jt_cmp op_gt opd_gt gtD_nx (by rfl) (je_ix rfl (fun _ _ => rfl) (je_var (i := 11) (show 11 ∉ ([4] : List Nat) by decide) rfl (.inl (by kernel_rfl))) je_int) je_int))) (fun _ _ _ _ _ _ => (je_ix rfl (fun _ _ => rfl) (je_var (i := 11) (show 11 ∉ ([4] : List Nat) by decide) rfl (.inl (by kernel_rfl))) je_int)))) ja_nil)))
  (js_cons (js_setDc (i := 4) (own := [("rest", 10)]) (show 4 ∈ ([4] : List Nat) by decide) (free_P rfl) rfl sc_lead_alike.nd rfl (by kernel_rfl) (sw_trueD rfl (by kernel_rfl) rfl (by kernel_rfl)) (okv_P rfl (show ∀ v ∈ ([10] : List Nat), v ∉ ([4] : List Nat) by decide)) (ji_rng1 (by exact rfl) E.fr_range (ja_cons (je_var (i := 3) (show 3 ∉ ([4] : List Nat) by decide) rfl (.inr (.inl (by kernel_rfl)))) ja_nil)) (blkOk_by (own := [("rest", 10)]) (N := N_lead_alike) (sc := defScope s_lead_alike) (by decide +kernel)) (fun _ _ _ _ _ _ => (jv_name (i := 10) (by decide) (show 10 ∉ ([4] : List Nat) by decide) (free_P rfl) sc_lead_alike.nd rfl (.inl (by kernel_rfl)) (.inr (by kernel_rfl)))) (fun _ _ _ _ _ _ => jts_nil) (fun _ _ _ _ _ _ => (je_var (i := 10) (show 10 ∉ ([4] : List Nat) by decide) rfl (.inl (by kernel_rfl)))) (fun _ _ _ _ _ _ => je_bl))
  (js_cons (js_for (tupG_nx (consG_nx (nmG_nx 5) (consG_nx (nmG_nx 6) (consG_nx (nmG_nx 7) (consG_nx (nmG_nx 8) nilG_nx))))) PassesOwn.never rfl (ji_seq rfl (je_var (i := 2) (show 2 ∉ ([4] : List Nat) by decide) rfl (.inl (by kernel_rfl)))) (jg_tup rfl rfl (jgs_cons (jg_name (i := 5) (show 5 ∉ ([4] : List Nat) by decide) (free_P rfl) sc_lead_alike.nd rfl (.inl (by kernel_rfl)) (.inl rfl)) (jgs_cons (jg_name (i := 6) (show 6 ∉ ([4] : List Nat) by decide) (free_P rfl) sc_lead_alike.nd rfl (.inl (by kernel_rfl)) (.inl rfl)) (jgs_cons (jg_name (i := 7) (show 7 ∉ ([4] : List Nat) by decide) (free_P rfl) sc_lead_alike.nd rfl (.inl (by kernel_rfl)) (.inl rfl)) (jgs_cons (jg_name (i := 8) (show 8 ∉ ([4] : List Nat) by decide) (free_P rfl) sc_lead_alike.nd rfl (.inl (by kernel_rfl)) (.inl rfl)) jgs_nil)))))
  (js_one (js_for (nmG_nx 9) PassesOwn.never rfl (ji_rng1 (by exact rfl) E.fr_range (ja_cons (je_if (jt_cmp (Dn.op_eqX hr.units) opd_eq eqD_nx (by rfl) (je_var (i := 6) (show 6 ∉ ([4] : List Nat) by decide) rfl (.inl (by kernel_rfl))) je_int) je_int (je_op Dn.op_divX opd_fdiv fdivD_nx (je_var (i := 3) (show 3 ∉ ([4] : List Nat) by decide) rfl (.inr (.inl (by kernel_rfl)))) (je_var (i := 6) (show 6 ∉ ([4] : List Nat) by decide) rfl (.inl (by kernel_rfl))))) ja_nil)) (jg_name (i := 9) (show 9 ∉ ([4] : List Nat) by decide) (free_P rfl) sc_lead_alike.nd rfl (.inl (by kernel_rfl)) (.inl rfl))
  (js_one (js_dput (i := 4) (Nat.lt_of_le_of_lt (Nat.add_le_add_left (by decide) _) hr.units) (show 4 ∈ ([4] : List Nat) by decide) rfl (.inl (by kernel_rfl)) (je_op Dn.op_addX opd_add addD_nx (je_var (i := 5) (show 5 ∉ ([4] : List Nat) by decide) rfl (.inl (by kernel_rfl))) (je_op Dn.op_mulX opd_mul mulD_nx (je_if (jt_cmp (Dn.op_eqX hr.units) opd_eq eqD_nx (by rfl) (je_var (i := 6) (show 6 ∉ ([4] : List Nat) by decide) rfl (.inl (by kernel_rfl))) je_int) (je_var (i := 3) (show 3 ∉ ([4] : List Nat) by decide) rfl (.inr (.inl (by kernel_rfl)))) (je_var (i := 6) (show 6 ∉ ([4] : List Nat) by decide) rfl (.inl (by kernel_rfl)))) (je_var (i := 9) (show 9 ∉ ([4] : List Nat) by decide) rfl (.inl (by kernel_rfl))))) je_bl)))))
  (js_one (js_ret (je_callB (cr_all rfl) cad_all allD_nx (by exact rfl) E.fr_all PyProof.Rows.boot_all (ja_cons (je_of (jf_lcK (i := 4) (show 4 ∈ ([4] : List Nat) by decide) rfl (.inl (by kernel_rfl)) (by decide) (by decide) (own := [("start", 12), ("number", 13)]) rfl sc_lead_alike.nd (okv_P rfl (show ∀ v ∈ ([12, 13] : List Nat), v ∉ ([4] : List Nat) by decide)) (vs1 := [13]) (show ∀ v ∈ ([13] : List Nat), v ∈ ([12, 13] : List Nat) by decide) (blkOk_by (own := [("start", 12), ("number", 13)]) (N := N_lead_alike) (sc := defScope s_lead_alike) (by decide +kernel)) (fun _ _ _ _ _ _ => (jv_name (i := 12) (by decide) (show 12 ∉ ([4] : List Nat) by decide) (free_P rfl) sc_lead_alike.nd rfl (.inl (by kernel_rfl)) (.inr (by kernel_rfl)))) (fun _ _ _ _ _ _ => jts_nil) (fun _ _ _ _ _ _ => (ji_seq rfl (je_tup (ja_cons (je_var (i := 12) (show 12 ∉ ([4] : List Nat) by decide) rfl (.inl (by kernel_rfl))) (ja_cons (je_op Dn.op_addX opd_add addD_nx (je_var (i := 12) (show 12 ∉ ([4] : List Nat) by decide) rfl (.inl (by kernel_rfl))) (je_var (i := 3) (show 3 ∉ ([4] : List Nat) by decide) rfl (.inr (.inl (by kernel_rfl))))) ja_nil))))) (fun _ _ _ _ _ _ => (jv_name (i := 13) (by decide) (show 13 ∉ ([4] : List Nat) by decide) (free_P rfl) sc_lead_alike.nd rfl (.inl (by kernel_rfl)) (.inr (by kernel_rfl)))) (fun _ _ _ _ _ _ => jts_nil) (fun _ _ _ _ _ _ => (je_cmp (Dn.op_eqX hr.units) opd_eq eqD_nx (by rfl) (jc_call (h_room_at_0 E) hr (show 1 ≤ 2 by decide) (by exact rfl) E.gf_room_at (fun _ _ => rfl) rfl (consA_len (consA_len nilA_len)) (ja_cons (je_var (i := 0) (show 0 ∉ ([4] : List Nat) by decide) rfl (.inr (.inl (by kernel_rfl)))) (ja_cons (je_var (i := 13) (show 13 ∉ ([4] : List Nat) by decide) rfl (.inl (by kernel_rfl))) ja_nil))) (jc_call (h_room_at_0 E) hr (show 1 ≤ 2 by decide) (by exact rfl) E.gf_room_at (fun _ _ => rfl) rfl (consA_len (consA_len nilA_len)) (ja_cons (je_var (i := 1) (show 1 ∉ ([4] : List Nat) by decide) rfl (.inr (.inl (by kernel_rfl)))) (ja_cons (je_var (i := 13) (show 13 ∉ ([4] : List Nat) by decide) rfl (.inl (by kernel_rfl))) ja_nil))))))) ja_nil))))))))
theorem h_lead_alike_0 (E : MG w K mg) : HeldD P w K mg base 3 (He.ga K "lead_alike") (spP (kx K (fnA K)) 2 false F_lead_alike) [] := by
  obtain ⟨fd, F0⟩ := E.fd_lead_alike
  exact held_N F0 (fo_lead_alike E F0) (b_lead_alike F0)
theorem b_are_alike {fd : FuncData} (F : FunD K "are_alike" "are_alike" (defArgs s_are_alike) (defBody s_are_alike) (defScope s_are_alike) [] [] (He.ga K "are_alike") fd) : L2.Binds K fd ["claim", "paper"] [] := F.bindsN fun _ _ _ _ _ _ us hl => match us, hl with | [_, _], _ => rfl
theorem fo_are_alike (E : MG w K mg) {fd : FuncData} (F : FunD K "are_alike" "are_alike" (defArgs s_are_alike) (defBody s_are_alike) (defScope s_are_alike) [] [] (He.ga K "are_alike") fd) : FnG P w K mg base CX0 6 (He.ga K "are_alike") fd ["claim", "paper"] (spP (kx K (fnA K)) 2 false F_are_alike) := by
  refine fn_P (lv := 5) (n := 2) (NN := 2) (nw := false) (own := []) (fb := m_are_alike) (k := kx K (fnA K)) (N := N_are_alike) F sc_are_alike rfl rfl (by decide) (fun cdv A outer s H E' M H0 W hr => ?_)
  unfold m_are_alike
  exact (js_one (js_ret (je_and (jc_call (h_is_laying_0 E) hr (show 5 ≤ 5 by decide) (by exact rfl) E.gf_is_laying (fun _ _ => rfl) rfl (consA_len nilA_len) (ja_cons (je_ix rfl (fun _ _ => rfl) (je_var (i := 0) (show 0 ∉ ([] : List Nat) by decide) rfl (.inl (by kernel_rfl))) je_int) ja_nil)) (je_and (jc_call (h_is_laying_0 E) hr (show 5 ≤ 5 by decide) (by exact rfl) E.gf_is_laying (fun _ _ => rfl) rfl (consA_len nilA_len) (ja_cons (je_ix rfl (fun _ _ => rfl) (je_var (i := 0) (show 0 ∉ ([] : List Nat) by decide) rfl (.inl (by kernel_rfl))) je_int) ja_nil)) (je_and (je_cmp op_isN opd_isN isN_nx (by rfl) (je_var (i := 1) (show 1 ∉ ([] : List Nat) by decide) rfl (.inl (by kernel_rfl))) je_non) (je_one (jc_call (h_lead_alike_0 E) hr (show 3 ≤ 5 by decide) (by exact rfl) E.gf_lead_alike (fun _ _ => rfl) rfl (consA_len (consA_len nilA_len)) (ja_cons (je_ix rfl (fun _ _ => rfl) (je_var (i := 0) (show 0 ∉ ([] : List Nat) by decide) rfl (.inl (by kernel_rfl))) je_int) (ja_cons (je_ix rfl (fun _ _ => rfl) (je_var (i := 0) (show 0 ∉ ([] : List Nat) by decide) rfl (.inl (by kernel_rfl))) je_int) ja_nil)))))))))
theorem b_are_unlike {fd : FuncData} (F : FunD K "are_unlike" "are_unlike" (defArgs s_are_unlike) (defBody s_are_unlike) (defScope s_are_unlike) [] [] (He.ga K "are_unlike") fd) : L2.Binds K fd ["claim", "paper"] [] := F.bindsN fun _ _ _ _ _ _ us hl => match us, hl with | [_, _], _ => rfl
theorem fo_are_unlike (E : MG w K mg) {fd : FuncData} (F : FunD K "are_unlike" "are_unlike" (defArgs s_are_unlike) (defBody s_are_unlike) (defScope s_are_unlike) [] [] (He.ga K "are_unlike") fd) : FnG P w K mg base CX0 6 (He.ga K "are_unlike") fd ["claim", "paper"] (spP (kx K (fnA K)) 2 false F_are_unlike) := by
  refine fn_P (lv := 5) (n := 2) (NN := 5) (nw := false) (own := []) (fb := m_are_unlike) (k := kx K (fnA K)) (N := N_are_unlike) F sc_are_unlike rfl rfl (by decide) (fun cdv A outer s H E' M H0 W hr => ?_)
  unfold m_are_unlike
  exact (js_cons (js_asg (je_var (i := 0) (show 0 ∉ ([] : List Nat) by decide) rfl (.inl (by kernel_rfl))) (jg_tup rfl rfl (jgs_cons (jg_name (i := 2) (show 2 ∉ ([] : List Nat) by decide) (free_P rfl) sc_are_unlike.nd rfl (.inl (by kernel_rfl)) (.inl rfl)) (jgs_cons (jg_name (i := 3) (show 3 ∉ ([] : List Nat) by decide) (free_P rfl) sc_are_unlike.nd rfl (.inl (by kernel_rfl)) (.inl rfl)) (jgs_cons (jg_name (i := 4) (show 4 ∉ ([] : List Nat) by decide) (free_P rfl) sc_are_unlike.nd rfl (.inl (by kernel_rfl)) (.inl rfl)) jgs_nil)))) (tupG_nx (consG_nx (nmG_nx 2) (consG_nx (nmG_nx 3) (consG_nx (nmG_nx 4) nilG_nx)))))
  (js_cons (js_if (PW.pt (jw_or (jt_not (jt_tru rfl (jc_call (h_is_laying_0 E) hr (show 5 ≤ 5 by decide) (by exact rfl) E.gf_is_laying (fun _ _ => rfl) rfl (consA_len nilA_len) (ja_cons (je_var (i := 2) (show 2 ∉ ([] : List Nat) by decide) rfl (.inl (by kernel_rfl))) ja_nil)))) (jw_or (jt_not (jt_tru rfl (jc_call (h_is_laying_0 E) hr (show 5 ≤ 5 by decide) (by exact rfl) E.gf_is_laying (fun _ _ => rfl) rfl (consA_len nilA_len) (ja_cons (je_var (i := 3) (show 3 ∉ ([] : List Nat) by decide) rfl (.inl (by kernel_rfl))) ja_nil)))) (jw_or (jt_not (jt_tru rfl (jc_call (h_is_count_0 E) hr (show 1 ≤ 5 by decide) (by exact rfl) E.gf_is_count (fun _ _ => ⟨_, _, rfl, rfl, ⟨_, _, rfl, rfl, rfl⟩⟩) rfl (consA_len nilA_len) (ja_cons (je_var (i := 4) (show 4 ∉ ([] : List Nat) by decide) rfl (.inl (by kernel_rfl))) ja_nil)))) (jw_or1 (jt_cmp op_notN opd_isNN isNN_nx (by rfl) (je_var (i := 1) (show 1 ∉ ([] : List Nat) by decide) rfl (.inl (by kernel_rfl))) je_non)))))) (js_one (js_ret je_bl)) js_nil)
  (js_one (js_ret (je_cmp (Dn.op_neX hr.units) opd_ne neD_nx (by rfl) (jc_call (h_room_at_0 E) hr (show 1 ≤ 5 by decide) (by exact rfl) E.gf_room_at (fun _ _ => rfl) rfl (consA_len (consA_len nilA_len)) (ja_cons (je_var (i := 2) (show 2 ∉ ([] : List Nat) by decide) rfl (.inl (by kernel_rfl))) (ja_cons (je_var (i := 4) (show 4 ∉ ([] : List Nat) by decide) rfl (.inl (by kernel_rfl))) ja_nil))) (jc_call (h_room_at_0 E) hr (show 1 ≤ 5 by decide) (by exact rfl) E.gf_room_at (fun _ _ => rfl) rfl (consA_len (consA_len nilA_len)) (ja_cons (je_var (i := 3) (show 3 ∉ ([] : List Nat) by decide) rfl (.inl (by kernel_rfl))) (ja_cons (je_var (i := 4) (show 4 ∉ ([] : List Nat) by decide) rfl (.inl (by kernel_rfl))) ja_nil))))))))
theorem A_holds (E : MG w K mg) : ∀ j F fa, T_holds j = some F → (kx K (fnA K)).fn j = some fa → HeldG P w K mg base 6 fa (spP (kx K (fnA K)) 2 false F) := by
  intro j F fa h1 h2
  match j, h1, h2 with
  | 0, h1, h2 =>
    cases h1
    cases h2
    obtain ⟨fd, F0⟩ := E.fd_are_alike
    exact ⟨fd, _, (fo_are_alike E F0).lift (by decide), F0.kp, b_are_alike F0⟩
  | 1, h1, h2 =>
    cases h1
    cases h2
    obtain ⟨fd, F0⟩ := E.fd_are_unlike
    exact ⟨fd, _, (fo_are_unlike E F0).lift (by decide), F0.kp, b_are_unlike F0⟩
  | _ + 2, h1, h2 => cases h1
theorem b_holds {fd : FuncData} (F : FunD K "holds" "holds" (defArgs s_holds) (defBody s_holds) (defScope s_holds) [] [] (He.ga K "holds") fd) : L2.Binds K fd ["claim", "paper"] [] := F.bindsN fun _ _ _ _ _ _ us hl => match us, hl with | [_, _], _ => rfl
theorem fo_holds (E : MG w K mg) {fd : FuncData} (F : FunD K "holds" "holds" (defArgs s_holds) (defBody s_holds) (defScope s_holds) [] [] (He.ga K "holds") fd) : FnG P w K mg base CX0 7 (He.ga K "holds") fd ["claim", "paper"] (spP (kx K (fnA K)) 2 false F_holds) := by
  refine fn_P (lv := 6) (n := 2) (NN := 4) (nw := false) (own := []) (fb := m_holds) (k := kx K (fnA K)) (N := N_holds) F sc_holds rfl rfl (by decide) (fun cdv A outer s H E' M H0 W hr => ?_)
  unfold m_holds
  exact (js_cons (js_if (PW.pt (jw_or (jt_not (jt_tru rfl (je_isi isiTup rfl (by exact rfl) E.fr_isinstance (by exact rfl) E.fr_tuple PyProof.Rows.boot_tuple (je_var (i := 0) (show 0 ∉ ([] : List Nat) by decide) rfl (.inl (by kernel_rfl)))))) (jw_or (jt_not (jt_tru rfl (je_var (i := 0) (show 0 ∉ ([] : List Nat) by decide) rfl (.inl (by kernel_rfl))))) (jw_or (jt_not (jt_tru rfl (je_isi isiStr rfl (by exact rfl) E.fr_isinstance (by exact rfl) E.fr_str PyProof.Rows.boot_str (je_ix rfl (fun _ _ => rfl) (je_var (i := 0) (show 0 ∉ ([] : List Nat) by decide) rfl (.inl (by kernel_rfl))) je_int)))) (jw_or1 (jt_notInK rfl E.kt_CLAIMS (by exact rfl) E.gt_CLAIMS (je_ix rfl (fun _ _ => rfl) (je_var (i := 0) (show 0 ∉ ([] : List Nat) by decide) rfl (.inl (by kernel_rfl))) je_int))))))) (js_one (js_ret je_bl)) js_nil)
  (js_cons (js_asg (je_ixK rfl E.kt_CLAIMS (by exact rfl) E.gt_CLAIMS (fun _ _ => rfl) (je_ix rfl (fun _ _ => rfl) (je_var (i := 0) (show 0 ∉ ([] : List Nat) by decide) rfl (.inl (by kernel_rfl))) je_int)) (jg_tup rfl rfl (jgs_cons (jg_name (i := 2) (show 2 ∉ ([] : List Nat) by decide) (free_P rfl) sc_holds.nd rfl (.inl (by kernel_rfl)) (.inl rfl)) (jgs_cons (jg_name (i := 3) (show 3 ∉ ([] : List Nat) by decide) (free_P rfl) sc_holds.nd rfl (.inl (by kernel_rfl)) (.inl rfl)) jgs_nil))) (tupG_nx (consG_nx (nmG_nx 2) (consG_nx (nmG_nx 3) nilG_nx))))
  (js_one (js_ret (je_and (je_cmp (Dn.op_eqX hr.units) opd_eq eqD_nx (by rfl) (je_callB call_lenX cad_len lenD_nx (by exact rfl) E.fr_len PySem.boot_len (ja_cons (je_var (i := 0) (show 0 ∉ ([] : List Nat) by decide) rfl (.inl (by kernel_rfl))) ja_nil)) (je_var (i := 2) (show 2 ∉ ([] : List Nat) by decide) rfl (.inl (by kernel_rfl)))) (je_one (je_callA (i := 3) (lv := 6) (A_holds E) hr (show 3 ∉ ([] : List Nat) by decide) rfl (.inl (by kernel_rfl)) rfl (consA_len (consA_len nilA_len)) (ja_cons (je_sli rfl (je_var (i := 0) (show 0 ∉ ([] : List Nat) by decide) rfl (.inl (by kernel_rfl))) (jo_some je_int) jo_none) (ja_cons (je_var (i := 1) (show 1 ∉ ([] : List Nat) by decide) rfl (.inl (by kernel_rfl))) ja_nil)))))))))
theorem h_holds_0 (E : MG w K mg) : HeldD P w K mg base 7 (He.ga K "holds") (spP (kx K (fnA K)) 2 false F_holds) [] := by
  obtain ⟨fd, F0⟩ := E.fd_holds
  exact held_N F0 (fo_holds E F0) (b_holds F0)
theorem h_holds_k0_paper_claim (E : MG w K mg) : HeldK P w K mg base 7 (He.ga K "holds") (spP (kx K (fnA K)) 2 false F_holds) 0 ["paper", "claim"] (fun vs zs => vs ++ zs.reverse) := by
  obtain ⟨fd, F0⟩ := E.fd_holds
  exact held_K F0 (fo_holds E F0) (kbindsNo (ps := ["claim", "paper"]) F0 0 ["paper", "claim"] (fun {α} (vs zs : List α) =>  vs ++ zs.reverse) (fun r1 r2 => r1.append (Vals.rev r2)) fun _ _ _ _ _ _ us ws hl hw => match us, ws, hl, hw with | [], [_, _], _, _ => rfl)
theorem b__law_taken {fd : FuncData} (F : FunD K "_law_taken" "_law_taken" (defArgs s__law_taken) (defBody s__law_taken) (defScope s__law_taken) [] [] (He.ga K "_law_taken") fd) : L2.Binds K fd ["_law_say_so", "_law_sheet", "_law_due_here"] [] := F.bindsN fun _ _ _ _ _ _ us hl => match us, hl with | [_, _, _], _ => rfl
theorem fo__law_taken (E : MG w K mg) {fd : FuncData} (F : FunD K "_law_taken" "_law_taken" (defArgs s__law_taken) (defBody s__law_taken) (defScope s__law_taken) [] [] (He.ga K "_law_taken") fd) : FnG P w K mg base CX0 8 (He.ga K "_law_taken") fd ["_law_say_so", "_law_sheet", "_law_due_here"] (spP (kx K (fnA K)) 3 false F__law_taken) := by
  refine fn_P (lv := 7) (n := 3) (NN := 5) (nw := false) (own := []) (fb := m__law_taken) (k := kx K (fnA K)) (N := N__law_taken) F sc__law_taken rfl rfl (by decide) (fun cdv A outer s H E' M H0 W hr => ?_)
  unfold m__law_taken
  exact (js_cons (js_set (i := 3) (show 3 ∉ ([] : List Nat) by decide) (free_P rfl) sc__law_taken.nd rfl (.inl (by kernel_rfl)) (.inl rfl) (je_lst (ja_cons (jc_call (h_holds_0 E) hr (show 7 ≤ 7 by decide) (by exact rfl) E.gf_holds (fun _ _ => rfl) rfl (consA_len (consA_len nilA_len)) (ja_cons (je_var (i := 0) (show 0 ∉ ([] : List Nat) by decide) rfl (.inl (by kernel_rfl))) (ja_cons (je_var (i := 1) (show 1 ∉ ([] : List Nat) by decide) rfl (.inl (by kernel_rfl))) ja_nil))) (ja_cons (jc_callK0 (g := (fun ds es => ds ++ es.reverse)) (h_holds_k0_paper_claim E) hr (show 7 ≤ 7 by decide) (by exact rfl) E.gf_holds (fun _ _ _ _ _ _ _ h1 h2 => h1.app h2.rev) (fun ds es h1 h2 => by simp [h1, h2]) (consA_len (consA_len nilA_len)) (jk_cons (je_var (i := 1) (show 1 ∉ ([] : List Nat) by decide) rfl (.inl (by kernel_rfl))) (jk_cons (je_var (i := 0) (show 0 ∉ ([] : List Nat) by decide) rfl (.inl (by kernel_rfl))) jk_nil))) ja_nil))))
  (js_one (js_ret (je_callB (cr_all rfl) cad_all allD_nx (by exact rfl) E.fr_all PyProof.Rows.boot_all (ja_cons (je_of (jf_lc (own := [("_law_one", 4)]) rfl sc__law_taken.nd (okv_P rfl (show ∀ v ∈ ([4] : List Nat), v ∉ ([] : List Nat) by decide)) (ji_seq rfl (je_var (i := 3) (show 3 ∉ ([] : List Nat) by decide) rfl (.inl (by kernel_rfl)))) (blkOk_by (own := [("_law_one", 4)]) (N := N__law_taken) (sc := defScope s__law_taken) (by decide +kernel)) (fun _ _ _ _ _ _ => (jv_name (i := 4) (by decide) (show 4 ∉ ([] : List Nat) by decide) (free_P rfl) sc__law_taken.nd rfl (.inl (by kernel_rfl)) (.inr (by kernel_rfl)))) (fun _ _ _ _ _ _ => jts_nil) (fun _ _ _ _ _ _ => (je_and (je_isi isiBool rfl (by exact rfl) E.fr_isinstance (by exact rfl) E.fr_bool PyProof.Rows.boot_bool (je_var (i := 4) (show 4 ∉ ([] : List Nat) by decide) rfl (.inl (by kernel_rfl)))) (je_one (je_cmp (Dn.op_eqX hr.units) opd_eq eqD_nx (by rfl) (je_var (i := 4) (show 4 ∉ ([] : List Nat) by decide) rfl (.inl (by kernel_rfl))) (je_var (i := 2) (show 2 ∉ ([] : List Nat) by decide) rfl (.inr (.inl (by kernel_rfl)))))))))) ja_nil)))))
theorem h__law_taken_0 (E : MG w K mg) : HeldD P w K mg base 8 (He.ga K "_law_taken") (spP (kx K (fnA K)) 3 false F__law_taken) [] := by
  obtain ⟨fd, F0⟩ := E.fd__law_taken
  exact held_N F0 (fo__law_taken E F0) (b__law_taken F0)
theorem b__law_take {fd : FuncData} (F : FunD K "_law_take" "_law_take" (defArgs s__law_take) (defBody s__law_take) (defScope s__law_take) [] [] (He.ga K "_law_take") fd) : L2.Binds K fd ["_law_purse_here", "_law_many"] [] := F.bindsN fun _ _ _ _ _ _ us hl => match us, hl with | [_, _], _ => rfl
theorem fo__law_take (E : MG w K mg) {fd : FuncData} (F : FunD K "_law_take" "_law_take" (defArgs s__law_take) (defBody s__law_take) (defScope s__law_take) [] [] (He.ga K "_law_take") fd) : FnG P w K mg base CX0 1 (He.ga K "_law_take") fd ["_law_purse_here", "_law_many"] (spI (kx K (fnA K)) 2 false F__law_take) := by
  refine fn_I (lv := 0) (n := 2) (NN := 4) (nw := false) (own := [0]) (fb := m__law_take) (k := kx K (fnA K)) (N := N__law_take) F sc__law_take rfl rfl (by decide) (by decide) (by decide) (fun cdv A outer s H E' M H0 a hr => ?_)
  unfold m__law_take
  exact (js_cons (js_asg (je_op Dn.op_addX opd_add addD_nx (je_oix (i := 0) rfl (show 0 ∈ ([0] : List Nat) by decide) rfl (.inl (by kernel_rfl)) (fun _ _ => rfl) je_int) je_int) (jg_sub (i := 0) (show 0 ∈ ([0] : List Nat) by decide) rfl (.inl (by kernel_rfl)) je_int) (subG_nx (cst_nx _)))
  (js_cons (js_set (i := 2) (show 2 ∉ ([0] : List Nat) by decide) (free_I (show 0 ∈ ([0] : List Nat) by decide) (show (2 : Nat) ≠ 0 by decide)) sc__law_take.nd rfl (.inl (by kernel_rfl)) (.inl rfl) (je_oix (i := 0) rfl (show 0 ∈ ([0] : List Nat) by decide) rfl (.inl (by kernel_rfl)) (fun _ _ => rfl) je_int))
  (js_cons (js_asg (je_op op_modN opd_mod modD_nx (je_op Dn.op_addX opd_add addD_nx (je_op Dn.op_addX opd_add addD_nx (je_op Dn.op_mulX opd_mul mulD_nx (je_var (i := 2) (show 2 ∉ ([0] : List Nat) by decide) rfl (.inl (by kernel_rfl))) (je_op Dn.op_addX opd_add addD_nx (je_op op_modN opd_mod modD_nx (je_var (i := 2) (show 2 ∉ ([0] : List Nat) by decide) rfl (.inl (by kernel_rfl))) je_int) je_int)) (je_op Dn.op_mulX opd_mul mulD_nx je_int (je_oix (i := 0) rfl (show 0 ∈ ([0] : List Nat) by decide) rfl (.inl (by kernel_rfl)) (fun _ _ => rfl) je_int))) je_int) je_int) (jg_sub (i := 0) (show 0 ∈ ([0] : List Nat) by decide) rfl (.inl (by kernel_rfl)) je_int) (subG_nx (cst_nx _)))
  (js_cons (js_if (jt_cmp op_gt opd_gt gtD_nx (by rfl) (je_oix (i := 0) rfl (show 0 ∈ ([0] : List Nat) by decide) rfl (.inl (by kernel_rfl)) (fun _ _ => rfl) je_int) je_int) (js_cons (js_set (i := 3) (show 3 ∉ ([0] : List Nat) by decide) (free_I (show 0 ∈ ([0] : List Nat) by decide) (show (3 : Nat) ≠ 0 by decide)) sc__law_take.nd rfl (.inl (by kernel_rfl)) (.inl rfl) (je_op op_modN opd_mod modD_nx (je_oix (i := 0) rfl (show 0 ∈ ([0] : List Nat) by decide) rfl (.inl (by kernel_rfl)) (fun _ _ => rfl) je_int) (je_var (i := 1) (show 1 ∉ ([0] : List Nat) by decide) rfl (.inl (by kernel_rfl)))))
  (js_cons (js_asg (je_op Dn.op_divX opd_fdiv fdivD_nx (je_oix (i := 0) rfl (show 0 ∈ ([0] : List Nat) by decide) rfl (.inl (by kernel_rfl)) (fun _ _ => rfl) je_int) (je_var (i := 1) (show 1 ∉ ([0] : List Nat) by decide) rfl (.inl (by kernel_rfl)))) (jg_sub (i := 0) (show 0 ∈ ([0] : List Nat) by decide) rfl (.inl (by kernel_rfl)) je_int) (subG_nx (cst_nx _)))
  (js_one (js_ret (je_var (i := 3) (show 3 ∉ ([0] : List Nat) by decide) rfl (.inl (by kernel_rfl))))))) js_nil)
  (js_one (js_ret (je_op op_modN opd_mod modD_nx (je_op Dn.op_divX opd_fdiv fdivD_nx (je_oix (i := 0) rfl (show 0 ∈ ([0] : List Nat) by decide) rfl (.inl (by kernel_rfl)) (fun _ _ => rfl) je_int) je_int) (je_var (i := 1) (show 1 ∉ ([0] : List Nat) by decide) rfl (.inl (by kernel_rfl))))))))))
theorem h__law_take_0 (E : MG w K mg) : HeldD P w K mg base 1 (He.ga K "_law_take") (spI (kx K (fnA K)) 2 false F__law_take) [] := by
  obtain ⟨fd, F0⟩ := E.fd__law_take
  exact held_N F0 (fo__law_take E F0) (b__law_take F0)
theorem b__law_classes {fd : FuncData} (F : FunD K "_law_classes" "_law_classes" (defArgs s__law_classes) (defBody s__law_classes) (defScope s__law_classes) [] [] (He.ga K "_law_classes") fd) : L2.Binds K fd ["_law_purse_here", "_law_many"] [] := F.bindsN fun _ _ _ _ _ _ us hl => match us, hl with | [_, _], _ => rfl
theorem fo__law_classes (E : MG w K mg) {fd : FuncData} (F : FunD K "_law_classes" "_law_classes" (defArgs s__law_classes) (defBody s__law_classes) (defScope s__law_classes) [] [] (He.ga K "_law_classes") fd) : FnG P w K mg base CX0 2 (He.ga K "_law_classes") fd ["_law_purse_here", "_law_many"] (spI (kx K (fnA K)) 2 true F__law_classes) := by
  refine fn_I (lv := 1) (n := 2) (NN := 10) (nw := true) (own := [0, 2]) (fb := m__law_classes) (k := kx K (fnA K)) (N := N__law_classes) F sc__law_classes rfl rfl (by decide) (by decide) (by decide) (fun cdv A outer s H E' M H0 a hr => ?_)
  unfold m__law_classes
  exact (js_cons (js_setO (i := 2) (show 2 ∈ ([0, 2] : List Nat) by decide) (free_I (show 0 ∈ ([0, 2] : List Nat) by decide) (show (2 : Nat) ≠ 0 by decide)) sc__law_classes.nd rfl (.inl (by kernel_rfl)) (.inl rfl) (jf_lst (ja_cons (je_tup (ja_cons je_int (ja_cons je_int ja_nil))) ja_nil)))
  (js_cons (js_for (nmG_nx 3) PassesOwn.never rfl (ji_rng1 (by exact rfl) E.fr_range (ja_cons (je_var (i := 1) (show 1 ∉ ([0, 2] : List Nat) by decide) rfl (.inl (by kernel_rfl))) ja_nil)) (jg_name (i := 3) (show 3 ∉ ([0, 2] : List Nat) by decide) (free_I (show 0 ∈ ([0, 2] : List Nat) by decide) (show (3 : Nat) ≠ 0 by decide)) sc__law_classes.nd rfl (.inl (by kernel_rfl)) (.inl rfl))
  (js_cons (js_asg (je_tup (ja_cons (jc_callI (i := 0) rfl (h__law_take_0 E) hr (show 1 ≤ 1 by decide) (by exact rfl) E.gf__law_take rfl (consA_len nilA_len) (show 0 ∈ ([0, 2] : List Nat) by decide) rfl (.inl (by kernel_rfl)) (ja_cons (je_callBO (i := 2) call_lenX cad_len lenD_nx (show 2 ∈ ([0, 2] : List Nat) by decide) rfl (.inl (by kernel_rfl)) (by exact rfl) E.fr_len PySem.boot_len) ja_nil)) (ja_cons (je_op Dn.op_addX opd_add addD_nx je_int (jc_callI (i := 0) rfl (h__law_take_0 E) hr (show 1 ≤ 1 by decide) (by exact rfl) E.gf__law_take rfl (consA_len nilA_len) (show 0 ∈ ([0, 2] : List Nat) by decide) rfl (.inl (by kernel_rfl)) (ja_cons je_int ja_nil))) ja_nil))) (jg_tup rfl rfl (jgs_cons (jg_name (i := 4) (show 4 ∉ ([0, 2] : List Nat) by decide) (free_I (show 0 ∈ ([0, 2] : List Nat) by decide) (show (4 : Nat) ≠ 0 by decide)) sc__law_classes.nd rfl (.inl (by kernel_rfl)) (.inl rfl)) (jgs_cons (jg_name (i := 5) (show 5 ∉ ([0, 2] : List Nat) by decide) (free_I (show 0 ∈ ([0, 2] : List Nat) by decide) (show (5 : Nat) ≠ 0 by decide)) sc__law_classes.nd rfl (.inr (by kernel_rfl)) (.inl rfl)) jgs_nil))) (tupG_nx (consG_nx (nmG_nx 4) (consG_nx (nmG_nx 5) nilG_nx))))
  (js_cons (js_asg (je_oix (i := 2) rfl (show 2 ∈ ([0, 2] : List Nat) by decide) rfl (.inl (by kernel_rfl)) (fun _ _ => rfl) (je_var (i := 4) (show 4 ∉ ([0, 2] : List Nat) by decide) rfl (.inl (by kernel_rfl)))) (jg_tup rfl rfl (jgs_cons (jg_name (i := 6) (show 6 ∉ ([0, 2] : List Nat) by decide) (free_I (show 0 ∈ ([0, 2] : List Nat) by decide) (show (6 : Nat) ≠ 0 by decide)) sc__law_classes.nd rfl (.inr (by kernel_rfl)) (.inl rfl)) (jgs_cons (jg_name (i := 7) (show 7 ∉ ([0, 2] : List Nat) by decide) (free_I (show 0 ∈ ([0, 2] : List Nat) by decide) (show (7 : Nat) ≠ 0 by decide)) sc__law_classes.nd rfl (.inr (by kernel_rfl)) (.inl rfl)) jgs_nil))) (tupG_nx (consG_nx (nmG_nx 6) (consG_nx (nmG_nx 7) nilG_nx))))
  (js_one (js_if (jt_cmp (Dn.op_eqX hr.units) opd_eq eqD_nx (by rfl) (je_op op_modN opd_mod modD_nx je_int (je_op Dn.op_mulX opd_mul mulD_nx (je_var (i := 7) (show 7 ∉ ([0, 2] : List Nat) by decide) rfl (.inr (.inl (by kernel_rfl)))) (je_var (i := 5) (show 5 ∉ ([0, 2] : List Nat) by decide) rfl (.inr (.inl (by kernel_rfl)))))) je_int) (js_cons (js_setLc (i := 8) (own := [("_law_k", 9)]) (.inl ⟨(show 8 ∉ ([0, 2] : List Nat) by decide), (free_I (show 0 ∈ ([0, 2] : List Nat) by decide) (show (8 : Nat) ≠ 0 by decide))⟩) rfl sc__law_classes.nd rfl (by kernel_rfl) (sw_true rfl (by kernel_rfl) rfl (by kernel_rfl)) (okv_I (show 0 ∈ ([0, 2] : List Nat) by decide) (show ∀ v ∈ ([9] : List Nat), v ∉ ([0, 2] : List Nat) ∧ v ≠ 0 by decide)) (ji_rng1 (by exact rfl) E.fr_range (ja_cons (je_var (i := 5) (show 5 ∉ ([0, 2] : List Nat) by decide) rfl (.inr (.inl (by kernel_rfl)))) ja_nil)) (blkOk_by (own := [("_law_k", 9)]) (N := N__law_classes) (sc := defScope s__law_classes) (by decide +kernel)) (fun _ _ _ _ _ _ => (jv_name (i := 9) (by decide) (show 9 ∉ ([0, 2] : List Nat) by decide) (free_I (show 0 ∈ ([0, 2] : List Nat) by decide) (show (9 : Nat) ≠ 0 by decide)) sc__law_classes.nd rfl (.inl (by kernel_rfl)) (.inr (by kernel_rfl)))) (fun _ _ _ _ _ _ => jts_nil) (fun _ _ _ _ _ _ => (je_tup (ja_cons (je_op Dn.op_addX opd_add addD_nx (je_var (i := 6) (show 6 ∉ ([0, 2] : List Nat) by decide) rfl (.inr (.inl (by kernel_rfl)))) (je_op Dn.op_mulX opd_mul mulD_nx (je_var (i := 7) (show 7 ∉ ([0, 2] : List Nat) by decide) rfl (.inr (.inl (by kernel_rfl)))) (je_var (i := 9) (show 9 ∉ ([0, 2] : List Nat) by decide) rfl (.inl (by kernel_rfl))))) (ja_cons (je_op Dn.op_mulX opd_mul mulD_nx (je_var (i := 7) (show 7 ∉ ([0, 2] : List Nat) by decide) rfl (.inr (.inl (by kernel_rfl)))) (je_var (i := 5) (show 5 ∉ ([0, 2] : List Nat) by decide) rfl (.inr (.inl (by kernel_rfl))))) ja_nil)))))
  (js_one (js_setO (i := 2) (show 2 ∈ ([0, 2] : List Nat) by decide) (free_I (show 0 ∈ ([0, 2] : List Nat) by decide) (show (2 : Nat) ≠ 0 by decide)) sc__law_classes.nd rfl (.inl (by kernel_rfl)) (.inl rfl) (jf_add (je_op Dn.op_addX opd_add addD_nx (je_sliO (i := 2) rfl (show 2 ∈ ([0, 2] : List Nat) by decide) rfl (.inl (by kernel_rfl)) jo_none (jo_some (je_var (i := 4) (show 4 ∉ ([0, 2] : List Nat) by decide) rfl (.inl (by kernel_rfl))))) (je_sliO (i := 2) rfl (show 2 ∈ ([0, 2] : List Nat) by decide) rfl (.inl (by kernel_rfl)) (jo_some (je_op Dn.op_addX opd_add addD_nx (je_var (i := 4) (show 4 ∉ ([0, 2] : List Nat) by decide) rfl (.inl (by kernel_rfl))) je_int)) jo_none)) (je_var (i := 8) (show 8 ∉ ([0, 2] : List Nat) by decide) rfl (.inl (by kernel_rfl))))))) js_nil)))))
  (js_one (js_retL (i := 2) (show 2 ∈ ([0, 2] : List Nat) by decide) (free_I (show 0 ∈ ([0, 2] : List Nat) by decide) (show (2 : Nat) ≠ 0 by decide)) rfl (.inl (by kernel_rfl))))))
theorem h__law_classes_0 (E : MG w K mg) : HeldD P w K mg base 2 (He.ga K "_law_classes") (spI (kx K (fnA K)) 2 true F__law_classes) [] := by
  obtain ⟨fd, F0⟩ := E.fd__law_classes
  exact held_N F0 (fo__law_classes E F0) (b__law_classes F0)
theorem b__law_laying {fd : FuncData} (F : FunD K "_law_laying" "_law_laying" (defArgs s__law_laying) (defBody s__law_laying) (defScope s__law_laying) [] [] (He.ga K "_law_laying") fd) : L2.Binds K fd ["_law_purse_here", "_law_great"] [] := F.bindsN fun _ _ _ _ _ _ us hl => match us, hl with | [_, _], _ => rfl
theorem fo__law_laying (E : MG w K mg) {fd : FuncData} (F : FunD K "_law_laying" "_law_laying" (defArgs s__law_laying) (defBody s__law_laying) (defScope s__law_laying) [] [] (He.ga K "_law_laying") fd) : FnG P w K mg base CX0 3 (He.ga K "_law_laying") fd ["_law_purse_here", "_law_great"] (spI (kx K (fnA K)) 2 false F__law_laying) := by
  refine fn_I (lv := 2) (n := 2) (NN := 15) (nw := false) (own := [0, 3, 4, 13]) (fb := m__law_laying) (k := kx K (fnA K)) (N := N__law_laying) F sc__law_laying rfl rfl (by decide) (by decide) (by decide) (fun cdv A outer s H E' M H0 a hr => ?_)
  unfold m__law_laying
  exact (js_cons (js_par2 (i := 2) (j := 3) (show 2 ∉ ([0, 3, 4, 13] : List Nat) by decide) (free_I (show 0 ∈ ([0, 3, 4, 13] : List Nat) by decide) (show (2 : Nat) ≠ 0 by decide)) (show 3 ∈ ([0, 3, 4, 13] : List Nat) by decide) (free_I (show 0 ∈ ([0, 3, 4, 13] : List Nat) by decide) (show (3 : Nat) ≠ 0 by decide)) rfl sc__law_laying.nd rfl rfl (show (2 : Nat) ≠ 3 by decide) (by kernel_rfl) (by kernel_rfl) (jc_callI (i := 0) rfl (h__law_classes_0 E) hr (show 2 ≤ 2 by decide) (by exact rfl) E.gf__law_classes rfl (consA_len nilA_len) (show 0 ∈ ([0, 3, 4, 13] : List Nat) by decide) rfl (.inl (by kernel_rfl)) (ja_cons (jc_callI (i := 0) rfl (h__law_take_0 E) hr (show 1 ≤ 2 by decide) (by exact rfl) E.gf__law_take rfl (consA_len nilA_len) (show 0 ∈ ([0, 3, 4, 13] : List Nat) by decide) rfl (.inl (by kernel_rfl)) (ja_cons je_int ja_nil)) ja_nil)) (jc_callIF (i := 0) rfl (h__law_classes_0 E) hr (show 2 ≤ 2 by decide) (by exact rfl) E.gf__law_classes rfl (consA_len nilA_len) (show 0 ∈ ([0, 3, 4, 13] : List Nat) by decide) rfl (.inl (by kernel_rfl)) (ja_cons (jc_callI (i := 0) rfl (h__law_take_0 E) hr (show 1 ≤ 2 by decide) (by exact rfl) E.gf__law_take rfl (consA_len nilA_len) (show 0 ∈ ([0, 3, 4, 13] : List Nat) by decide) rfl (.inl (by kernel_rfl)) (ja_cons je_int ja_nil)) ja_nil)) rfl)
  (js_cons (js_par1 (i := 4) (j := 5) (show 4 ∈ ([0, 3, 4, 13] : List Nat) by decide) (free_I (show 0 ∈ ([0, 3, 4, 13] : List Nat) by decide) (show (4 : Nat) ≠ 0 by decide)) (show 5 ∉ ([0, 3, 4, 13] : List Nat) by decide) (free_I (show 0 ∈ ([0, 3, 4, 13] : List Nat) by decide) (show (5 : Nat) ≠ 0 by decide)) rfl sc__law_laying.nd rfl rfl (show (4 : Nat) ≠ 5 by decide) (by kernel_rfl) (by kernel_rfl) (jf_lst ja_nil) (fun _ => (je_ix rfl (fun _ _ => rfl) (je_lst (ja_cons je_int (ja_cons (je_op op_pow opd_pow powD_nx je_int je_int) ja_nil))) (je_callTy call_int1 cad_int intD_nx (by exact rfl) E.fr_int PyProof.Rows.boot_int (ja_cons (je_and (je_var (i := 1) (show 1 ∉ ([0, 3, 4, 13] : List Nat) by decide) rfl (.inl (by kernel_rfl))) (je_one (je_cmp (Dn.op_eqX hr.units) opd_eq eqD_nx (by rfl) (jc_callI (i := 0) rfl (h__law_take_0 E) hr (show 1 ≤ 2 by decide) (by exact rfl) E.gf__law_take rfl (consA_len nilA_len) (show 0 ∈ ([0, 3, 4, 13] : List Nat) by decide) rfl (.inl (by kernel_rfl)) (ja_cons je_int ja_nil)) je_int))) ja_nil)))) rfl)
  (js_cons (js_for (tupG_nx (consG_nx (nmG_nx 6) (consG_nx (nmG_nx 7) nilG_nx))) PassesOwn.never rfl (ji_seq rfl (je_var (i := 2) (show 2 ∉ ([0, 3, 4, 13] : List Nat) by decide) rfl (.inl (by kernel_rfl)))) (jg_tup rfl rfl (jgs_cons (jg_name (i := 6) (show 6 ∉ ([0, 3, 4, 13] : List Nat) by decide) (free_I (show 0 ∈ ([0, 3, 4, 13] : List Nat) by decide) (show (6 : Nat) ≠ 0 by decide)) sc__law_laying.nd rfl (.inl (by kernel_rfl)) (.inl rfl)) (jgs_cons (jg_name (i := 7) (show 7 ∉ ([0, 3, 4, 13] : List Nat) by decide) (free_I (show 0 ∈ ([0, 3, 4, 13] : List Nat) by decide) (show (7 : Nat) ≠ 0 by decide)) sc__law_laying.nd rfl (.inl (by kernel_rfl)) (.inl rfl)) jgs_nil)))
  (js_one (js_if (PW.pt (jw_and (jt_cmpL (i := 3) (Dn.op_neX hr.units) opd_ne neD_nx (by rfl) (show 3 ∈ ([0, 3, 4, 13] : List Nat) by decide) rfl (.inl (by kernel_rfl)) (je_lst ja_nil)) (jw_and1 (jt_cmp op_gt opd_gt gtD_nx (by rfl) (jc_callI (i := 0) rfl (h__law_take_0 E) hr (show 1 ≤ 2 by decide) (by exact rfl) E.gf__law_take rfl (consA_len nilA_len) (show 0 ∈ ([0, 3, 4, 13] : List Nat) by decide) rfl (.inl (by kernel_rfl)) (ja_cons je_int ja_nil)) je_int)))) (js_cons (js_asg (je_popK (i := 3) (show 3 ∈ ([0, 3, 4, 13] : List Nat) by decide) rfl (.inl (by kernel_rfl)) (jc_callI (i := 0) rfl (h__law_take_0 E) hr (show 1 ≤ 2 by decide) (by exact rfl) E.gf__law_take rfl (consA_len nilA_len) (show 0 ∈ ([0, 3, 4, 13] : List Nat) by decide) rfl (.inl (by kernel_rfl)) (ja_cons (je_callBO (i := 3) call_lenX cad_len lenD_nx (show 3 ∈ ([0, 3, 4, 13] : List Nat) by decide) rfl (.inl (by kernel_rfl)) (by exact rfl) E.fr_len PySem.boot_len) ja_nil))) (jg_tup rfl rfl (jgs_cons (jg_name (i := 8) (show 8 ∉ ([0, 3, 4, 13] : List Nat) by decide) (free_I (show 0 ∈ ([0, 3, 4, 13] : List Nat) by decide) (show (8 : Nat) ≠ 0 by decide)) sc__law_laying.nd rfl (.inl (by kernel_rfl)) (.inl rfl)) (jgs_cons (jg_name (i := 9) (show 9 ∉ ([0, 3, 4, 13] : List Nat) by decide) (free_I (show 0 ∈ ([0, 3, 4, 13] : List Nat) by decide) (show (9 : Nat) ≠ 0 by decide)) sc__law_laying.nd rfl (.inl (by kernel_rfl)) (.inl rfl)) jgs_nil))) (tupG_nx (consG_nx (nmG_nx 8) (consG_nx (nmG_nx 9) nilG_nx))))
  (js_cons (js_par (i := 10) (j := 11) (show 10 ∉ ([0, 3, 4, 13] : List Nat) by decide) (free_I (show 0 ∈ ([0, 3, 4, 13] : List Nat) by decide) (show (10 : Nat) ≠ 0 by decide)) (show 11 ∉ ([0, 3, 4, 13] : List Nat) by decide) (free_I (show 0 ∈ ([0, 3, 4, 13] : List Nat) by decide) (show (11 : Nat) ≠ 0 by decide)) rfl sc__law_laying.nd rfl rfl (show (10 : Nat) ≠ 11 by decide) (by kernel_rfl) (by kernel_rfl) (jc_callI (i := 0) rfl (h__law_take_0 E) hr (show 1 ≤ 2 by decide) (by exact rfl) E.gf__law_take rfl (consA_len nilA_len) (show 0 ∈ ([0, 3, 4, 13] : List Nat) by decide) rfl (.inl (by kernel_rfl)) (ja_cons je_int ja_nil)) (jc_callI (i := 0) rfl (h__law_take_0 E) hr (show 1 ≤ 2 by decide) (by exact rfl) E.gf__law_take rfl (consA_len nilA_len) (show 0 ∈ ([0, 3, 4, 13] : List Nat) by decide) rfl (.inl (by kernel_rfl)) (ja_cons je_int ja_nil)) rfl)
  (js_cons (js_set (i := 12) (show 12 ∉ ([0, 3, 4, 13] : List Nat) by decide) (free_I (show 0 ∈ ([0, 3, 4, 13] : List Nat) by decide) (show (12 : Nat) ≠ 0 by decide)) sc__law_laying.nd rfl (.inl (by kernel_rfl)) (.inl rfl) (je_ix rfl (fun _ _ => rfl) (je_lst (ja_cons je_int (ja_cons (je_op op_pow opd_pow powD_nx je_int je_int) ja_nil))) (je_callTy call_int1 cad_int intD_nx (by exact rfl) E.fr_int PyProof.Rows.boot_int (ja_cons (je_and (je_var (i := 1) (show 1 ∉ ([0, 3, 4, 13] : List Nat) by decide) rfl (.inl (by kernel_rfl))) (je_one (je_cmp (Dn.op_eqX hr.units) opd_eq eqD_nx (by rfl) (jc_callI (i := 0) rfl (h__law_take_0 E) hr (show 1 ≤ 2 by decide) (by exact rfl) E.gf__law_take rfl (consA_len nilA_len) (show 0 ∈ ([0, 3, 4, 13] : List Nat) by decide) rfl (.inl (by kernel_rfl)) (ja_cons je_int ja_nil)) je_int))) ja_nil))))
  (js_cons (js_app (i := 4) rfl (show 4 ∈ ([0, 3, 4, 13] : List Nat) by decide) rfl (.inl (by kernel_rfl)) (je_tup (ja_cons (je_op Dn.op_addX opd_add addD_nx (je_var (i := 6) (show 6 ∉ ([0, 3, 4, 13] : List Nat) by decide) rfl (.inl (by kernel_rfl))) (je_op Dn.op_mulX opd_mul mulD_nx (je_var (i := 7) (show 7 ∉ ([0, 3, 4, 13] : List Nat) by decide) rfl (.inl (by kernel_rfl))) (je_var (i := 10) (show 10 ∉ ([0, 3, 4, 13] : List Nat) by decide) rfl (.inl (by kernel_rfl))))) (ja_cons (je_var (i := 7) (show 7 ∉ ([0, 3, 4, 13] : List Nat) by decide) rfl (.inl (by kernel_rfl))) (ja_cons (je_op Dn.op_addX opd_add addD_nx (je_var (i := 8) (show 8 ∉ ([0, 3, 4, 13] : List Nat) by decide) rfl (.inl (by kernel_rfl))) (je_op Dn.op_mulX opd_mul mulD_nx (je_var (i := 9) (show 9 ∉ ([0, 3, 4, 13] : List Nat) by decide) rfl (.inl (by kernel_rfl))) (je_op Dn.op_addX opd_add addD_nx (je_var (i := 11) (show 11 ∉ ([0, 3, 4, 13] : List Nat) by decide) rfl (.inl (by kernel_rfl))) (je_var (i := 5) (show 5 ∉ ([0, 3, 4, 13] : List Nat) by decide) rfl (.inl (by kernel_rfl)))))) (ja_cons (je_op Dn.op_mulX opd_mul mulD_nx (je_var (i := 9) (show 9 ∉ ([0, 3, 4, 13] : List Nat) by decide) rfl (.inl (by kernel_rfl))) (je_var (i := 12) (show 12 ∉ ([0, 3, 4, 13] : List Nat) by decide) rfl (.inl (by kernel_rfl)))) ja_nil))))))
  (js_one (js_if (PW.pt (jw_and (jt_cmp op_gt opd_gt gtD_nx (by rfl) (je_var (i := 10) (show 10 ∉ ([0, 3, 4, 13] : List Nat) by decide) rfl (.inl (by kernel_rfl))) je_int) (jw_and (jt_cmp op_gt opd_gt gtD_nx (by rfl) (je_var (i := 11) (show 11 ∉ ([0, 3, 4, 13] : List Nat) by decide) rfl (.inl (by kernel_rfl))) je_int) (jw_and1 (jt_cmp (Dn.op_eqX hr.units) opd_eq eqD_nx (by rfl) (jc_callI (i := 0) rfl (h__law_take_0 E) hr (show 1 ≤ 2 by decide) (by exact rfl) E.gf__law_take rfl (consA_len nilA_len) (show 0 ∈ ([0, 3, 4, 13] : List Nat) by decide) rfl (.inl (by kernel_rfl)) (ja_cons je_int ja_nil)) je_int))))) (js_one (js_app (i := 4) rfl (show 4 ∈ ([0, 3, 4, 13] : List Nat) by decide) rfl (.inl (by kernel_rfl)) (je_tup (ja_cons (je_op Dn.op_addX opd_add addD_nx (je_var (i := 6) (show 6 ∉ ([0, 3, 4, 13] : List Nat) by decide) rfl (.inl (by kernel_rfl))) (je_op Dn.op_mulX opd_mul mulD_nx (je_var (i := 7) (show 7 ∉ ([0, 3, 4, 13] : List Nat) by decide) rfl (.inl (by kernel_rfl))) (je_op op_sub opd_sub subD_nx (je_var (i := 10) (show 10 ∉ ([0, 3, 4, 13] : List Nat) by decide) rfl (.inl (by kernel_rfl))) je_int))) (ja_cons je_int (ja_cons (je_op Dn.op_addX opd_add addD_nx (je_var (i := 8) (show 8 ∉ ([0, 3, 4, 13] : List Nat) by decide) rfl (.inl (by kernel_rfl))) (je_op Dn.op_mulX opd_mul mulD_nx (je_var (i := 9) (show 9 ∉ ([0, 3, 4, 13] : List Nat) by decide) rfl (.inl (by kernel_rfl))) (je_op op_sub opd_sub subD_nx (je_op op_sub opd_sub subD_nx (je_var (i := 11) (show 11 ∉ ([0, 3, 4, 13] : List Nat) by decide) rfl (.inl (by kernel_rfl))) je_int) (jc_callI (i := 0) rfl (h__law_take_0 E) hr (show 1 ≤ 2 by decide) (by exact rfl) E.gf__law_take rfl (consA_len nilA_len) (show 0 ∈ ([0, 3, 4, 13] : List Nat) by decide) rfl (.inl (by kernel_rfl)) (ja_cons (je_var (i := 11) (show 11 ∉ ([0, 3, 4, 13] : List Nat) by decide) rfl (.inl (by kernel_rfl))) ja_nil))))) (ja_cons je_int ja_nil))))))) js_nil)))))) js_nil)))
  (js_frz (i := 4) (show 4 ∈ ([0, 3, 4, 13] : List Nat) by decide) (free_I (show 0 ∈ ([0, 3, 4, 13] : List Nat) by decide) (show (4 : Nat) ≠ 0 by decide)) (js_cons (js_setO (i := 13) (show 13 ∈ ([0, 3, 13] : List Nat) by decide) (free_I (show 0 ∈ ([0, 3, 13] : List Nat) by decide) (show (13 : Nat) ≠ 0 by decide)) sc__law_laying.nd rfl (.inl (by kernel_rfl)) (.inl rfl) (jf_lst ja_nil))
  (js_cons (js_for (nmG_nx 14) PassesOwn.never rfl (ji_seq rfl (je_var (i := 4) (show 4 ∉ ([0, 3, 13] : List Nat) by decide) rfl (.inl (by kernel_rfl)))) (jg_name (i := 14) (show 14 ∉ ([0, 3, 13] : List Nat) by decide) (free_I (show 0 ∈ ([0, 3, 13] : List Nat) by decide) (show (14 : Nat) ≠ 0 by decide)) sc__law_laying.nd rfl (.inl (by kernel_rfl)) (.inl rfl))
  (js_one (js_expr (je_insK (i := 13) (show 13 ∈ ([0, 3, 13] : List Nat) by decide) rfl (.inl (by kernel_rfl)) (jc_callI (i := 0) rfl (h__law_take_0 E) hr (show 1 ≤ 2 by decide) (by exact rfl) E.gf__law_take rfl (consA_len nilA_len) (show 0 ∈ ([0, 3, 13] : List Nat) by decide) rfl (.inl (by kernel_rfl)) (ja_cons (je_op Dn.op_addX opd_add addD_nx (je_callBO (i := 13) call_lenX cad_len lenD_nx (show 13 ∈ ([0, 3, 13] : List Nat) by decide) rfl (.inl (by kernel_rfl)) (by exact rfl) E.fr_len PySem.boot_len) je_int) ja_nil)) (je_var (i := 14) (show 14 ∉ ([0, 3, 13] : List Nat) by decide) rfl (.inl (by kernel_rfl)))))))
  (js_frz (i := 13) (show 13 ∈ ([0, 3, 13] : List Nat) by decide) (free_I (show 0 ∈ ([0, 3, 13] : List Nat) by decide) (show (13 : Nat) ≠ 0 by decide)) (js_one (js_ret (je_callTy call_tuple_of cad_tuple tupleD_nx (by exact rfl) E.fr_tuple PyProof.Rows.boot_tuple (ja_cons (je_var (i := 13) (show 13 ∉ ([0, 3] : List Nat) by decide) rfl (.inl (by kernel_rfl))) ja_nil)))))))))))
theorem h__law_laying_0 (E : MG w K mg) : HeldD P w K mg base 3 (He.ga K "_law_laying") (spI (kx K (fnA K)) 2 false F__law_laying) [] := by
  obtain ⟨fd, F0⟩ := E.fd__law_laying
  exact held_N F0 (fo__law_laying E F0) (b__law_laying F0)
theorem b__law_told_otherwise {fd : FuncData} (F : FunD K "_law_told_otherwise" "_law_told_otherwise" (defArgs s__law_told_otherwise) (defBody s__law_told_otherwise) (defScope s__law_told_otherwise) [] [] (He.ga K "_law_told_otherwise") fd) : L2.Binds K fd ["_law_purse_here", "_law_rows"] [] := F.bindsN fun _ _ _ _ _ _ us hl => match us, hl with | [_, _], _ => rfl
theorem fo__law_told_otherwise (E : MG w K mg) {fd : FuncData} (F : FunD K "_law_told_otherwise" "_law_told_otherwise" (defArgs s__law_told_otherwise) (defBody s__law_told_otherwise) (defScope s__law_told_otherwise) [] [] (He.ga K "_law_told_otherwise") fd) : FnG P w K mg base CX0 2 (He.ga K "_law_told_otherwise") fd ["_law_purse_here", "_law_rows"] (spI (kx K (fnA K)) 2 false F__law_told_otherwise) := by
  refine fn_I (lv := 1) (n := 2) (NN := 12) (nw := false) (own := [0, 9]) (fb := m__law_told_otherwise) (k := kx K (fnA K)) (N := N__law_told_otherwise) F sc__law_told_otherwise rfl rfl (by decide) (by decide) (by decide) (fun cdv A outer s H E' M H0 a hr => ?_)
  unfold m__law_told_otherwise
  exact (js_cons (js_if (jt_cmp (Dn.op_eqX hr.units) opd_eq eqD_nx (by rfl) (je_var (i := 1) (show 1 ∉ ([0, 9] : List Nat) by decide) rfl (.inl (by kernel_rfl))) (je_tup ja_nil)) (js_one (js_ret (je_var (i := 1) (show 1 ∉ ([0, 9] : List Nat) by decide) rfl (.inl (by kernel_rfl))))) js_nil)
  (js_cons (js_asg (je_tup (ja_cons (jc_callI (i := 0) rfl (h__law_take_0 E) hr (show 1 ≤ 1 by decide) (by exact rfl) E.gf__law_take rfl (consA_len nilA_len) (show 0 ∈ ([0, 9] : List Nat) by decide) rfl (.inl (by kernel_rfl)) (ja_cons (je_callB call_lenX cad_len lenD_nx (by exact rfl) E.fr_len PySem.boot_len (ja_cons (je_var (i := 1) (show 1 ∉ ([0, 9] : List Nat) by decide) rfl (.inl (by kernel_rfl))) ja_nil)) ja_nil)) (ja_cons (je_op Dn.op_addX opd_add addD_nx je_int (jc_callI (i := 0) rfl (h__law_take_0 E) hr (show 1 ≤ 1 by decide) (by exact rfl) E.gf__law_take rfl (consA_len nilA_len) (show 0 ∈ ([0, 9] : List Nat) by decide) rfl (.inl (by kernel_rfl)) (ja_cons je_int ja_nil))) (ja_cons (jc_callI (i := 0) rfl (h__law_take_0 E) hr (show 1 ≤ 1 by decide) (by exact rfl) E.gf__law_take rfl (consA_len nilA_len) (show 0 ∈ ([0, 9] : List Nat) by decide) rfl (.inl (by kernel_rfl)) (ja_cons je_int ja_nil)) ja_nil)))) (jg_tup rfl rfl (jgs_cons (jg_name (i := 2) (show 2 ∉ ([0, 9] : List Nat) by decide) (free_I (show 0 ∈ ([0, 9] : List Nat) by decide) (show (2 : Nat) ≠ 0 by decide)) sc__law_told_otherwise.nd rfl (.inl (by kernel_rfl)) (.inl rfl)) (jgs_cons (jg_name (i := 3) (show 3 ∉ ([0, 9] : List Nat) by decide) (free_I (show 0 ∈ ([0, 9] : List Nat) by decide) (show (3 : Nat) ≠ 0 by decide)) sc__law_told_otherwise.nd rfl (.inr (by kernel_rfl)) (.inl rfl)) (jgs_cons (jg_name (i := 4) (show 4 ∉ ([0, 9] : List Nat) by decide) (free_I (show 0 ∈ ([0, 9] : List Nat) by decide) (show (4 : Nat) ≠ 0 by decide)) sc__law_told_otherwise.nd rfl (.inl (by kernel_rfl)) (.inl rfl)) jgs_nil)))) (tupG_nx (consG_nx (nmG_nx 2) (consG_nx (nmG_nx 3) (consG_nx (nmG_nx 4) nilG_nx)))))
  (js_cons (js_asg (je_ix rfl (fun _ _ => rfl) (je_var (i := 1) (show 1 ∉ ([0, 9] : List Nat) by decide) rfl (.inl (by kernel_rfl))) (je_var (i := 2) (show 2 ∉ ([0, 9] : List Nat) by decide) rfl (.inl (by kernel_rfl)))) (jg_tup rfl rfl (jgs_cons (jg_name (i := 5) (show 5 ∉ ([0, 9] : List Nat) by decide) (free_I (show 0 ∈ ([0, 9] : List Nat) by decide) (show (5 : Nat) ≠ 0 by decide)) sc__law_told_otherwise.nd rfl (.inr (by kernel_rfl)) (.inl rfl)) (jgs_cons (jg_name (i := 6) (show 6 ∉ ([0, 9] : List Nat) by decide) (free_I (show 0 ∈ ([0, 9] : List Nat) by decide) (show (6 : Nat) ≠ 0 by decide)) sc__law_told_otherwise.nd rfl (.inr (by kernel_rfl)) (.inl rfl)) (jgs_cons (jg_name (i := 7) (show 7 ∉ ([0, 9] : List Nat) by decide) (free_I (show 0 ∈ ([0, 9] : List Nat) by decide) (show (7 : Nat) ≠ 0 by decide)) sc__law_told_otherwise.nd rfl (.inr (by kernel_rfl)) (.inl rfl)) (jgs_cons (jg_name (i := 8) (show 8 ∉ ([0, 9] : List Nat) by decide) (free_I (show 0 ∈ ([0, 9] : List Nat) by decide) (show (8 : Nat) ≠ 0 by decide)) sc__law_told_otherwise.nd rfl (.inr (by kernel_rfl)) (.inl rfl)) jgs_nil))))) (tupG_nx (consG_nx (nmG_nx 5) (consG_nx (nmG_nx 6) (consG_nx (nmG_nx 7) (consG_nx (nmG_nx 8) nilG_nx))))))
  (js_cons (js_setO (i := 9) (show 9 ∈ ([0, 9] : List Nat) by decide) (free_I (show 0 ∈ ([0, 9] : List Nat) by decide) (show (9 : Nat) ≠ 0 by decide)) sc__law_told_otherwise.nd rfl (.inl (by kernel_rfl)) (.inl rfl) (jf_lst (ja_cons (je_ix rfl (fun _ _ => rfl) (je_var (i := 1) (show 1 ∉ ([0, 9] : List Nat) by decide) rfl (.inl (by kernel_rfl))) (je_var (i := 2) (show 2 ∉ ([0, 9] : List Nat) by decide) rfl (.inl (by kernel_rfl)))) ja_nil)))
  (js_cons (js_if (PW.pt (jw_and (jt_cmp op_gt opd_gt gtD_nx (by rfl) (je_var (i := 6) (show 6 ∉ ([0, 9] : List Nat) by decide) rfl (.inr (.inl (by kernel_rfl)))) je_int) (jw_and1 (jt_cmp (Dn.op_eqX hr.units) opd_eq eqD_nx (by rfl) (jc_callI (i := 0) rfl (h__law_take_0 E) hr (show 1 ≤ 1 by decide) (by exact rfl) E.gf__law_take rfl (consA_len nilA_len) (show 0 ∈ ([0, 9] : List Nat) by decide) rfl (.inl (by kernel_rfl)) (ja_cons je_int ja_nil)) je_int)))) (js_one (js_setLc (i := 9) (own := [("_law_k", 11)]) (.inr ⟨(show 9 ∈ ([0, 9] : List Nat) by decide), (free_I (show 0 ∈ ([0, 9] : List Nat) by decide) (show (9 : Nat) ≠ 0 by decide))⟩) rfl sc__law_told_otherwise.nd rfl (by kernel_rfl) (sw_true rfl (by kernel_rfl) rfl (by kernel_rfl)) (okv_I (show 0 ∈ ([0, 9] : List Nat) by decide) (show ∀ v ∈ ([11] : List Nat), v ∉ ([0, 9] : List Nat) ∧ v ≠ 0 by decide)) (ji_rng1 (by exact rfl) E.fr_range (ja_cons (je_var (i := 3) (show 3 ∉ ([0, 9] : List Nat) by decide) rfl (.inr (.inl (by kernel_rfl)))) ja_nil)) (blkOk_by (own := [("_law_k", 11)]) (N := N__law_told_otherwise) (sc := defScope s__law_told_otherwise) (by decide +kernel)) (fun _ _ _ _ _ _ => (jv_name (i := 11) (by decide) (show 11 ∉ ([0, 9] : List Nat) by decide) (free_I (show 0 ∈ ([0, 9] : List Nat) by decide) (show (11 : Nat) ≠ 0 by decide)) sc__law_told_otherwise.nd rfl (.inl (by kernel_rfl)) (.inr (by kernel_rfl)))) (fun _ _ _ _ _ _ => jts_nil) (fun _ _ _ _ _ _ => (je_tup (ja_cons (je_op Dn.op_addX opd_add addD_nx (je_var (i := 5) (show 5 ∉ ([0, 9] : List Nat) by decide) rfl (.inr (.inl (by kernel_rfl)))) (je_op Dn.op_mulX opd_mul mulD_nx (je_var (i := 6) (show 6 ∉ ([0, 9] : List Nat) by decide) rfl (.inr (.inl (by kernel_rfl)))) (je_var (i := 11) (show 11 ∉ ([0, 9] : List Nat) by decide) rfl (.inl (by kernel_rfl))))) (ja_cons (je_op Dn.op_mulX opd_mul mulD_nx (je_var (i := 6) (show 6 ∉ ([0, 9] : List Nat) by decide) rfl (.inr (.inl (by kernel_rfl)))) (je_var (i := 3) (show 3 ∉ ([0, 9] : List Nat) by decide) rfl (.inr (.inl (by kernel_rfl))))) (ja_cons (je_op Dn.op_addX opd_add addD_nx (je_var (i := 7) (show 7 ∉ ([0, 9] : List Nat) by decide) rfl (.inr (.inl (by kernel_rfl)))) (je_op Dn.op_mulX opd_mul mulD_nx (je_var (i := 8) (show 8 ∉ ([0, 9] : List Nat) by decide) rfl (.inr (.inl (by kernel_rfl)))) (je_var (i := 11) (show 11 ∉ ([0, 9] : List Nat) by decide) rfl (.inl (by kernel_rfl))))) (ja_cons (je_op Dn.op_mulX opd_mul mulD_nx (je_var (i := 8) (show 8 ∉ ([0, 9] : List Nat) by decide) rfl (.inr (.inl (by kernel_rfl)))) (je_var (i := 3) (show 3 ∉ ([0, 9] : List Nat) by decide) rfl (.inr (.inl (by kernel_rfl))))) ja_nil)))))))) (js_one (js_if (jt_cmp op_gt opd_gt gtD_nx (by rfl) (je_var (i := 6) (show 6 ∉ ([0, 9] : List Nat) by decide) rfl (.inr (.inl (by kernel_rfl)))) je_int) (js_cons (js_setLc (i := 9) (own := [("_law_k", 11)]) (.inr ⟨(show 9 ∈ ([0, 9] : List Nat) by decide), (free_I (show 0 ∈ ([0, 9] : List Nat) by decide) (show (9 : Nat) ≠ 0 by decide))⟩) rfl sc__law_told_otherwise.nd rfl (by kernel_rfl) (sw_true rfl (by kernel_rfl) rfl (by kernel_rfl)) (okv_I (show 0 ∈ ([0, 9] : List Nat) by decide) (show ∀ v ∈ ([11] : List Nat), v ∉ ([0, 9] : List Nat) ∧ v ≠ 0 by decide)) (ji_rng1 (by exact rfl) E.fr_range (ja_cons (je_var (i := 4) (show 4 ∉ ([0, 9] : List Nat) by decide) rfl (.inl (by kernel_rfl))) ja_nil)) (blkOk_by (own := [("_law_k", 11)]) (N := N__law_told_otherwise) (sc := defScope s__law_told_otherwise) (by decide +kernel)) (fun _ _ _ _ _ _ => (jv_name (i := 11) (by decide) (show 11 ∉ ([0, 9] : List Nat) by decide) (free_I (show 0 ∈ ([0, 9] : List Nat) by decide) (show (11 : Nat) ≠ 0 by decide)) sc__law_told_otherwise.nd rfl (.inl (by kernel_rfl)) (.inr (by kernel_rfl)))) (fun _ _ _ _ _ _ => jts_nil) (fun _ _ _ _ _ _ => (je_tup (ja_cons (je_op Dn.op_addX opd_add addD_nx (je_var (i := 5) (show 5 ∉ ([0, 9] : List Nat) by decide) rfl (.inr (.inl (by kernel_rfl)))) (je_op Dn.op_mulX opd_mul mulD_nx (je_var (i := 6) (show 6 ∉ ([0, 9] : List Nat) by decide) rfl (.inr (.inl (by kernel_rfl)))) (je_var (i := 11) (show 11 ∉ ([0, 9] : List Nat) by decide) rfl (.inl (by kernel_rfl))))) (ja_cons je_int (ja_cons (je_op Dn.op_addX opd_add addD_nx (je_var (i := 7) (show 7 ∉ ([0, 9] : List Nat) by decide) rfl (.inr (.inl (by kernel_rfl)))) (je_op Dn.op_mulX opd_mul mulD_nx (je_var (i := 8) (show 8 ∉ ([0, 9] : List Nat) by decide) rfl (.inr (.inl (by kernel_rfl)))) (je_var (i := 11) (show 11 ∉ ([0, 9] : List Nat) by decide) rfl (.inl (by kernel_rfl))))) (ja_cons je_int ja_nil)))))))
  (js_one (js_app (i := 9) rfl (show 9 ∈ ([0, 9] : List Nat) by decide) rfl (.inl (by kernel_rfl)) (je_tup (ja_cons (je_op Dn.op_addX opd_add addD_nx (je_var (i := 5) (show 5 ∉ ([0, 9] : List Nat) by decide) rfl (.inr (.inl (by kernel_rfl)))) (je_op Dn.op_mulX opd_mul mulD_nx (je_var (i := 6) (show 6 ∉ ([0, 9] : List Nat) by decide) rfl (.inr (.inl (by kernel_rfl)))) (je_var (i := 4) (show 4 ∉ ([0, 9] : List Nat) by decide) rfl (.inl (by kernel_rfl))))) (ja_cons (je_var (i := 6) (show 6 ∉ ([0, 9] : List Nat) by decide) rfl (.inr (.inl (by kernel_rfl)))) (ja_cons (je_op Dn.op_addX opd_add addD_nx (je_var (i := 7) (show 7 ∉ ([0, 9] : List Nat) by decide) rfl (.inr (.inl (by kernel_rfl)))) (je_op Dn.op_mulX opd_mul mulD_nx (je_var (i := 8) (show 8 ∉ ([0, 9] : List Nat) by decide) rfl (.inr (.inl (by kernel_rfl)))) (je_var (i := 4) (show 4 ∉ ([0, 9] : List Nat) by decide) rfl (.inl (by kernel_rfl))))) (ja_cons (je_var (i := 8) (show 8 ∉ ([0, 9] : List Nat) by decide) rfl (.inr (.inl (by kernel_rfl)))) ja_nil)))))))) js_nil)))
  (js_frz (i := 9) (show 9 ∈ ([0, 9] : List Nat) by decide) (free_I (show 0 ∈ ([0, 9] : List Nat) by decide) (show (9 : Nat) ≠ 0 by decide)) (js_cons (js_set (i := 10) (show 10 ∉ ([0] : List Nat) by decide) (free_I (show 0 ∈ ([0] : List Nat) by decide) (show (10 : Nat) ≠ 0 by decide)) sc__law_told_otherwise.nd rfl (.inl (by kernel_rfl)) (.inl rfl) (je_op Dn.op_addX opd_add addD_nx (je_op Dn.op_addX opd_add addD_nx (je_callTy call_list_of cad_list listD_nx (by exact rfl) E.fr_list PyProof.Rows.boot_list (ja_cons (je_sli rfl (je_var (i := 1) (show 1 ∉ ([0] : List Nat) by decide) rfl (.inl (by kernel_rfl))) jo_none (jo_some (je_var (i := 2) (show 2 ∉ ([0] : List Nat) by decide) rfl (.inl (by kernel_rfl))))) ja_nil)) (je_var (i := 9) (show 9 ∉ ([0] : List Nat) by decide) rfl (.inl (by kernel_rfl)))) (je_callTy call_list_of cad_list listD_nx (by exact rfl) E.fr_list PyProof.Rows.boot_list (ja_cons (je_sli rfl (je_var (i := 1) (show 1 ∉ ([0] : List Nat) by decide) rfl (.inl (by kernel_rfl))) (jo_some (je_op Dn.op_addX opd_add addD_nx (je_var (i := 2) (show 2 ∉ ([0] : List Nat) by decide) rfl (.inl (by kernel_rfl))) je_int)) jo_none) ja_nil))))
  (js_one (js_ret (je_callTy call_tuple_of cad_tuple tupleD_nx (by exact rfl) E.fr_tuple PyProof.Rows.boot_tuple (ja_cons (je_step rfl (je_var (i := 10) (show 10 ∉ ([0] : List Nat) by decide) rfl (.inl (by kernel_rfl))) jo_none jo_none (jo_some (je_ix rfl (fun _ _ => rfl) (je_lst (ja_cons je_int (ja_cons (je_neg je_int) ja_nil))) (jc_callI (i := 0) rfl (h__law_take_0 E) hr (show 1 ≤ 1 by decide) (by exact rfl) E.gf__law_take rfl (consA_len nilA_len) (show 0 ∈ ([0] : List Nat) by decide) rfl (.inl (by kernel_rfl)) (ja_cons je_int ja_nil))))) ja_nil)))))))))))
theorem h__law_told_otherwise_0 (E : MG w K mg) : HeldD P w K mg base 2 (He.ga K "_law_told_otherwise") (spI (kx K (fnA K)) 2 false F__law_told_otherwise) [] := by
  obtain ⟨fd, F0⟩ := E.fd__law_told_otherwise
  exact held_N F0 (fo__law_told_otherwise E F0) (b__law_told_otherwise F0)
theorem b__law_near {fd : FuncData} (F : FunD K "_law_near" "_law_near" (defArgs s__law_near) (defBody s__law_near) (defScope s__law_near) [] [] (He.ga K "_law_near") fd) : L2.Binds K fd ["_law_purse_here", "_law_rows"] [] := F.bindsN fun _ _ _ _ _ _ us hl => match us, hl with | [_, _], _ => rfl
theorem fo__law_near (E : MG w K mg) {fd : FuncData} (F : FunD K "_law_near" "_law_near" (defArgs s__law_near) (defBody s__law_near) (defScope s__law_near) [] [] (He.ga K "_law_near") fd) : FnG P w K mg base CX0 2 (He.ga K "_law_near") fd ["_law_purse_here", "_law_rows"] (spI (kx K (fnA K)) 2 false F__law_near) := by
  refine fn_I (lv := 1) (n := 2) (NN := 9) (nw := false) (own := [0]) (fb := m__law_near) (k := kx K (fnA K)) (N := N__law_near) F sc__law_near rfl rfl (by decide) (by decide) (by decide) (fun cdv A outer s H E' M H0 a hr => ?_)
  unfold m__law_near
  exact (js_cons (js_if (jt_cmp (Dn.op_eqX hr.units) opd_eq eqD_nx (by rfl) (je_var (i := 1) (show 1 ∉ ([0] : List Nat) by decide) rfl (.inl (by kernel_rfl))) (je_tup ja_nil)) (js_one (js_ret (je_tup (ja_cons (je_tup (ja_cons je_int (ja_cons je_int (ja_cons je_int (ja_cons je_int ja_nil))))) ja_nil)))) js_nil)
  (js_cons (js_par (i := 2) (j := 3) (show 2 ∉ ([0] : List Nat) by decide) (free_I (show 0 ∈ ([0] : List Nat) by decide) (show (2 : Nat) ≠ 0 by decide)) (show 3 ∉ ([0] : List Nat) by decide) (free_I (show 0 ∈ ([0] : List Nat) by decide) (show (3 : Nat) ≠ 0 by decide)) rfl sc__law_near.nd rfl rfl (show (2 : Nat) ≠ 3 by decide) (by kernel_rfl) (by kernel_rfl) (jc_callI (i := 0) rfl (h__law_take_0 E) hr (show 1 ≤ 1 by decide) (by exact rfl) E.gf__law_take rfl (consA_len nilA_len) (show 0 ∈ ([0] : List Nat) by decide) rfl (.inl (by kernel_rfl)) (ja_cons (je_callB call_lenX cad_len lenD_nx (by exact rfl) E.fr_len PySem.boot_len (ja_cons (je_var (i := 1) (show 1 ∉ ([0] : List Nat) by decide) rfl (.inl (by kernel_rfl))) ja_nil)) ja_nil)) (jc_callI (i := 0) rfl (h__law_take_0 E) hr (show 1 ≤ 1 by decide) (by exact rfl) E.gf__law_take rfl (consA_len nilA_len) (show 0 ∈ ([0] : List Nat) by decide) rfl (.inl (by kernel_rfl)) (ja_cons je_int ja_nil)) rfl)
  (js_cons (js_asg (je_ix rfl (fun _ _ => rfl) (je_var (i := 1) (show 1 ∉ ([0] : List Nat) by decide) rfl (.inl (by kernel_rfl))) (je_var (i := 2) (show 2 ∉ ([0] : List Nat) by decide) rfl (.inl (by kernel_rfl)))) (jg_tup rfl rfl (jgs_cons (jg_name (i := 4) (show 4 ∉ ([0] : List Nat) by decide) (free_I (show 0 ∈ ([0] : List Nat) by decide) (show (4 : Nat) ≠ 0 by decide)) sc__law_near.nd rfl (.inl (by kernel_rfl)) (.inl rfl)) (jgs_cons (jg_name (i := 5) (show 5 ∉ ([0] : List Nat) by decide) (free_I (show 0 ∈ ([0] : List Nat) by decide) (show (5 : Nat) ≠ 0 by decide)) sc__law_near.nd rfl (.inl (by kernel_rfl)) (.inl rfl)) (jgs_cons (jg_name (i := 6) (show 6 ∉ ([0] : List Nat) by decide) (free_I (show 0 ∈ ([0] : List Nat) by decide) (show (6 : Nat) ≠ 0 by decide)) sc__law_near.nd rfl (.inl (by kernel_rfl)) (.inl rfl)) (jgs_cons (jg_name (i := 7) (show 7 ∉ ([0] : List Nat) by decide) (free_I (show 0 ∈ ([0] : List Nat) by decide) (show (7 : Nat) ≠ 0 by decide)) sc__law_near.nd rfl (.inl (by kernel_rfl)) (.inl rfl)) jgs_nil))))) (tupG_nx (consG_nx (nmG_nx 4) (consG_nx (nmG_nx 5) (consG_nx (nmG_nx 6) (consG_nx (nmG_nx 7) nilG_nx))))))
  (js_cons (js_if (jt_cmp (Dn.op_eqX hr.units) opd_eq eqD_nx (by rfl) (je_var (i := 3) (show 3 ∉ ([0] : List Nat) by decide) rfl (.inl (by kernel_rfl))) je_int) (js_one (js_ret (je_op Dn.op_addX opd_add addD_nx (je_sli rfl (je_var (i := 1) (show 1 ∉ ([0] : List Nat) by decide) rfl (.inl (by kernel_rfl))) jo_none (jo_some (je_var (i := 2) (show 2 ∉ ([0] : List Nat) by decide) rfl (.inl (by kernel_rfl))))) (je_sli rfl (je_var (i := 1) (show 1 ∉ ([0] : List Nat) by decide) rfl (.inl (by kernel_rfl))) (jo_some (je_op Dn.op_addX opd_add addD_nx (je_var (i := 2) (show 2 ∉ ([0] : List Nat) by decide) rfl (.inl (by kernel_rfl))) je_int)) jo_none)))) js_nil)
  (js_cons (js_if (PW.pt (jw_and (jt_cmp (Dn.op_eqX hr.units) opd_eq eqD_nx (by rfl) (je_var (i := 3) (show 3 ∉ ([0] : List Nat) by decide) rfl (.inl (by kernel_rfl))) je_int) (jw_and1 (jt_cmp op_gt opd_gt gtD_nx (by rfl) (je_var (i := 5) (show 5 ∉ ([0] : List Nat) by decide) rfl (.inl (by kernel_rfl))) je_int)))) (js_cons (js_set (i := 8) (show 8 ∉ ([0] : List Nat) by decide) (free_I (show 0 ∈ ([0] : List Nat) by decide) (show (8 : Nat) ≠ 0 by decide)) sc__law_near.nd rfl (.inl (by kernel_rfl)) (.inl rfl) (je_tup (ja_cons (je_op Dn.op_addX opd_add addD_nx (je_var (i := 4) (show 4 ∉ ([0] : List Nat) by decide) rfl (.inl (by kernel_rfl))) (je_var (i := 5) (show 5 ∉ ([0] : List Nat) by decide) rfl (.inl (by kernel_rfl)))) (ja_cons (je_var (i := 5) (show 5 ∉ ([0] : List Nat) by decide) rfl (.inl (by kernel_rfl))) (ja_cons (je_op Dn.op_addX opd_add addD_nx (je_var (i := 6) (show 6 ∉ ([0] : List Nat) by decide) rfl (.inl (by kernel_rfl))) (je_var (i := 7) (show 7 ∉ ([0] : List Nat) by decide) rfl (.inl (by kernel_rfl)))) (ja_cons (je_var (i := 7) (show 7 ∉ ([0] : List Nat) by decide) rfl (.inl (by kernel_rfl))) ja_nil))))))
  (js_one (js_ret (je_op Dn.op_addX opd_add addD_nx (je_op Dn.op_addX opd_add addD_nx (je_sli rfl (je_var (i := 1) (show 1 ∉ ([0] : List Nat) by decide) rfl (.inl (by kernel_rfl))) jo_none (jo_some (je_var (i := 2) (show 2 ∉ ([0] : List Nat) by decide) rfl (.inl (by kernel_rfl))))) (je_tup (ja_cons (je_var (i := 8) (show 8 ∉ ([0] : List Nat) by decide) rfl (.inl (by kernel_rfl))) ja_nil))) (je_sli rfl (je_var (i := 1) (show 1 ∉ ([0] : List Nat) by decide) rfl (.inl (by kernel_rfl))) (jo_some (je_op Dn.op_addX opd_add addD_nx (je_var (i := 2) (show 2 ∉ ([0] : List Nat) by decide) rfl (.inl (by kernel_rfl))) je_int)) jo_none))))) js_nil)
  (js_cons (js_if (PW.pt (jw_and (jt_cmp (Dn.op_eqX hr.units) opd_eq eqD_nx (by rfl) (je_var (i := 3) (show 3 ∉ ([0] : List Nat) by decide) rfl (.inl (by kernel_rfl))) je_int) (jw_and1 (jt_cmp op_gt opd_gt gtD_nx (by rfl) (je_var (i := 5) (show 5 ∉ ([0] : List Nat) by decide) rfl (.inl (by kernel_rfl))) je_int)))) (js_one (js_ret (je_op Dn.op_addX opd_add addD_nx (je_op Dn.op_addX opd_add addD_nx (je_sli rfl (je_var (i := 1) (show 1 ∉ ([0] : List Nat) by decide) rfl (.inl (by kernel_rfl))) jo_none (jo_some (je_var (i := 2) (show 2 ∉ ([0] : List Nat) by decide) rfl (.inl (by kernel_rfl))))) (je_tup (ja_cons (je_tup (ja_cons (je_var (i := 4) (show 4 ∉ ([0] : List Nat) by decide) rfl (.inl (by kernel_rfl))) (ja_cons (je_var (i := 5) (show 5 ∉ ([0] : List Nat) by decide) rfl (.inl (by kernel_rfl))) (ja_cons (je_op Dn.op_addX opd_add addD_nx (je_var (i := 6) (show 6 ∉ ([0] : List Nat) by decide) rfl (.inl (by kernel_rfl))) (je_var (i := 7) (show 7 ∉ ([0] : List Nat) by decide) rfl (.inl (by kernel_rfl)))) (ja_cons (je_var (i := 7) (show 7 ∉ ([0] : List Nat) by decide) rfl (.inl (by kernel_rfl))) ja_nil))))) ja_nil))) (je_sli rfl (je_var (i := 1) (show 1 ∉ ([0] : List Nat) by decide) rfl (.inl (by kernel_rfl))) (jo_some (je_op Dn.op_addX opd_add addD_nx (je_var (i := 2) (show 2 ∉ ([0] : List Nat) by decide) rfl (.inl (by kernel_rfl))) je_int)) jo_none)))) js_nil)
  (js_one (js_ret (je_op Dn.op_addX opd_add addD_nx (je_op Dn.op_addX opd_add addD_nx (je_sli rfl (je_var (i := 1) (show 1 ∉ ([0] : List Nat) by decide) rfl (.inl (by kernel_rfl))) jo_none (jo_some (je_var (i := 2) (show 2 ∉ ([0] : List Nat) by decide) rfl (.inl (by kernel_rfl))))) (je_tup (ja_cons (je_tup (ja_cons (je_var (i := 4) (show 4 ∉ ([0] : List Nat) by decide) rfl (.inl (by kernel_rfl))) (ja_cons (je_var (i := 5) (show 5 ∉ ([0] : List Nat) by decide) rfl (.inl (by kernel_rfl))) (ja_cons (je_var (i := 6) (show 6 ∉ ([0] : List Nat) by decide) rfl (.inl (by kernel_rfl))) (ja_cons (je_op Dn.op_mulX opd_mul mulD_nx je_int (je_var (i := 7) (show 7 ∉ ([0] : List Nat) by decide) rfl (.inl (by kernel_rfl)))) ja_nil))))) ja_nil))) (je_sli rfl (je_var (i := 1) (show 1 ∉ ([0] : List Nat) by decide) rfl (.inl (by kernel_rfl))) (jo_some (je_op Dn.op_addX opd_add addD_nx (je_var (i := 2) (show 2 ∉ ([0] : List Nat) by decide) rfl (.inl (by kernel_rfl))) je_int)) jo_none))))))))))
theorem h__law_near_0 (E : MG w K mg) : HeldD P w K mg base 2 (He.ga K "_law_near") (spI (kx K (fnA K)) 2 false F__law_near) [] := by
  obtain ⟨fd, F0⟩ := E.fd__law_near
  exact held_N F0 (fo__law_near E F0) (b__law_near F0)
theorem b__law_claims {fd : FuncData} (F : FunD K "_law_claims" "_law_claims" (defArgs s__law_claims) (defBody s__law_claims) (defScope s__law_claims) [] [] (He.ga K "_law_claims") fd) : L2.Binds K fd ["_law_purse_here", "_law_rows"] [] := F.bindsN fun _ _ _ _ _ _ us hl => match us, hl with | [_, _], _ => rfl
theorem fo__law_claims (E : MG w K mg) {fd : FuncData} (F : FunD K "_law_claims" "_law_claims" (defArgs s__law_claims) (defBody s__law_claims) (defScope s__law_claims) [] [] (He.ga K "_law_claims") fd) : FnG P w K mg base CX0 4 (He.ga K "_law_claims") fd ["_law_purse_here", "_law_rows"] (spI (kx K (fnA K)) 2 false F__law_claims) := by
  refine fn_I (lv := 3) (n := 2) (NN := 9) (nw := false) (own := [0, 4]) (fb := m__law_claims) (k := kx K (fnA K)) (N := N__law_claims) F sc__law_claims rfl rfl (by decide) (by decide) (by decide) (fun cdv A outer s H E' M H0 a hr => ?_)
  unfold m__law_claims
  exact (js_cons (js_set (i := 2) (show 2 ∉ ([0, 4] : List Nat) by decide) (free_I (show 0 ∈ ([0, 4] : List Nat) by decide) (show (2 : Nat) ≠ 0 by decide)) sc__law_claims.nd rfl (.inl (by kernel_rfl)) (.inl rfl) (jc_callI (i := 0) rfl (h__law_told_otherwise_0 E) hr (show 2 ≤ 3 by decide) (by exact rfl) E.gf__law_told_otherwise rfl (consA_len nilA_len) (show 0 ∈ ([0, 4] : List Nat) by decide) rfl (.inl (by kernel_rfl)) (ja_cons (je_var (i := 1) (show 1 ∉ ([0, 4] : List Nat) by decide) rfl (.inl (by kernel_rfl))) ja_nil)))
  (js_cons (js_set (i := 3) (show 3 ∉ ([0, 4] : List Nat) by decide) (free_I (show 0 ∈ ([0, 4] : List Nat) by decide) (show (3 : Nat) ≠ 0 by decide)) sc__law_claims.nd rfl (.inl (by kernel_rfl)) (.inl rfl) (jc_callI (i := 0) rfl (h__law_told_otherwise_0 E) hr (show 2 ≤ 3 by decide) (by exact rfl) E.gf__law_told_otherwise rfl (consA_len nilA_len) (show 0 ∈ ([0, 4] : List Nat) by decide) rfl (.inl (by kernel_rfl)) (ja_cons (je_var (i := 2) (show 2 ∉ ([0, 4] : List Nat) by decide) rfl (.inl (by kernel_rfl))) ja_nil)))
  (js_cons (js_par1 (i := 4) (j := 5) (show 4 ∈ ([0, 4] : List Nat) by decide) (free_I (show 0 ∈ ([0, 4] : List Nat) by decide) (show (4 : Nat) ≠ 0 by decide)) (show 5 ∉ ([0, 4] : List Nat) by decide) (free_I (show 0 ∈ ([0, 4] : List Nat) by decide) (show (5 : Nat) ≠ 0 by decide)) rfl sc__law_claims.nd rfl rfl (show (4 : Nat) ≠ 5 by decide) (by kernel_rfl) (by kernel_rfl) (jf_lst ja_nil) (fun _ => (je_lst (ja_cons (je_var (i := 2) (show 2 ∉ ([0, 4] : List Nat) by decide) rfl (.inl (by kernel_rfl))) (ja_cons (je_var (i := 3) (show 3 ∉ ([0, 4] : List Nat) by decide) rfl (.inl (by kernel_rfl))) (ja_cons (jc_callI (i := 0) rfl (h__law_near_0 E) hr (show 2 ≤ 3 by decide) (by exact rfl) E.gf__law_near rfl (consA_len nilA_len) (show 0 ∈ ([0, 4] : List Nat) by decide) rfl (.inl (by kernel_rfl)) (ja_cons (je_var (i := 1) (show 1 ∉ ([0, 4] : List Nat) by decide) rfl (.inl (by kernel_rfl))) ja_nil)) (ja_cons (jc_callI (i := 0) rfl (h__law_near_0 E) hr (show 2 ≤ 3 by decide) (by exact rfl) E.gf__law_near rfl (consA_len nilA_len) (show 0 ∈ ([0, 4] : List Nat) by decide) rfl (.inl (by kernel_rfl)) (ja_cons (je_var (i := 2) (show 2 ∉ ([0, 4] : List Nat) by decide) rfl (.inl (by kernel_rfl))) ja_nil)) (ja_cons (jc_callI (i := 0) rfl (h__law_laying_0 E) hr (show 3 ≤ 3 by decide) (by exact rfl) E.gf__law_laying rfl (consA_len nilA_len) (show 0 ∈ ([0, 4] : List Nat) by decide) rfl (.inl (by kernel_rfl)) (ja_cons je_bl ja_nil)) (ja_cons (je_tup ja_nil) ja_nil)))))))) rfl)
  (js_cons (js_for (nmG_nx 6) PassesOwn.never rfl (ji_seq rfl (je_var (i := 5) (show 5 ∉ ([0, 4] : List Nat) by decide) rfl (.inl (by kernel_rfl)))) (jg_name (i := 6) (show 6 ∉ ([0, 4] : List Nat) by decide) (free_I (show 0 ∈ ([0, 4] : List Nat) by decide) (show (6 : Nat) ≠ 0 by decide)) sc__law_claims.nd rfl (.inl (by kernel_rfl)) (.inl rfl))
  (js_cons (js_app (i := 4) rfl (show 4 ∈ ([0, 4] : List Nat) by decide) rfl (.inl (by kernel_rfl)) (je_tup (ja_cons (je_tup (ja_cons je_str (ja_cons (je_var (i := 1) (show 1 ∉ ([0, 4] : List Nat) by decide) rfl (.inl (by kernel_rfl))) (ja_cons (je_var (i := 6) (show 6 ∉ ([0, 4] : List Nat) by decide) rfl (.inl (by kernel_rfl))) ja_nil)))) (ja_cons je_non ja_nil))))
  (js_cons (js_app (i := 4) rfl (show 4 ∈ ([0, 4] : List Nat) by decide) rfl (.inl (by kernel_rfl)) (je_tup (ja_cons (je_tup (ja_cons je_str (ja_cons (je_var (i := 6) (show 6 ∉ ([0, 4] : List Nat) by decide) rfl (.inl (by kernel_rfl))) (ja_cons (je_var (i := 1) (show 1 ∉ ([0, 4] : List Nat) by decide) rfl (.inl (by kernel_rfl))) ja_nil)))) (ja_cons je_non ja_nil))))
  (js_cons (js_for (nmG_nx 7) PassesOwn.never rfl (ji_seq rfl (je_lst (ja_cons (jc_callI (i := 0) rfl (h__law_take_0 E) hr (show 1 ≤ 3 by decide) (by exact rfl) E.gf__law_take rfl (consA_len nilA_len) (show 0 ∈ ([0, 4] : List Nat) by decide) rfl (.inl (by kernel_rfl)) (ja_cons je_int ja_nil)) (ja_cons (jc_callI (i := 0) rfl (h__law_take_0 E) hr (show 1 ≤ 3 by decide) (by exact rfl) E.gf__law_take rfl (consA_len nilA_len) (show 0 ∈ ([0, 4] : List Nat) by decide) rfl (.inl (by kernel_rfl)) (ja_cons je_int ja_nil)) (ja_cons (je_op Dn.op_addX opd_add addD_nx (je_op op_pow opd_pow powD_nx je_int je_int) (jc_callI (i := 0) rfl (h__law_take_0 E) hr (show 1 ≤ 3 by decide) (by exact rfl) E.gf__law_take rfl (consA_len nilA_len) (show 0 ∈ ([0, 4] : List Nat) by decide) rfl (.inl (by kernel_rfl)) (ja_cons je_int ja_nil))) ja_nil))))) (jg_name (i := 7) (show 7 ∉ ([0, 4] : List Nat) by decide) (free_I (show 0 ∈ ([0, 4] : List Nat) by decide) (show (7 : Nat) ≠ 0 by decide)) sc__law_claims.nd rfl (.inl (by kernel_rfl)) (.inl rfl))
  (js_one (js_app (i := 4) rfl (show 4 ∈ ([0, 4] : List Nat) by decide) rfl (.inl (by kernel_rfl)) (je_tup (ja_cons (je_tup (ja_cons je_str (ja_cons (je_var (i := 1) (show 1 ∉ ([0, 4] : List Nat) by decide) rfl (.inl (by kernel_rfl))) (ja_cons (je_var (i := 6) (show 6 ∉ ([0, 4] : List Nat) by decide) rfl (.inl (by kernel_rfl))) (ja_cons (je_var (i := 7) (show 7 ∉ ([0, 4] : List Nat) by decide) rfl (.inl (by kernel_rfl))) ja_nil))))) (ja_cons je_non ja_nil))))))
  (js_one (js_for (nmG_nx 8) PassesOwn.never rfl (ji_seq rfl (je_sli rfl (je_op Dn.op_addX opd_add addD_nx (je_var (i := 1) (show 1 ∉ ([0, 4] : List Nat) by decide) rfl (.inl (by kernel_rfl))) (je_var (i := 6) (show 6 ∉ ([0, 4] : List Nat) by decide) rfl (.inl (by kernel_rfl)))) jo_none (jo_some je_int))) (jg_name (i := 8) (show 8 ∉ ([0, 4] : List Nat) by decide) (free_I (show 0 ∈ ([0, 4] : List Nat) by decide) (show (8 : Nat) ≠ 0 by decide)) sc__law_claims.nd rfl (.inl (by kernel_rfl)) (.inl rfl))
  (js_one (js_app (i := 4) rfl (show 4 ∈ ([0, 4] : List Nat) by decide) rfl (.inl (by kernel_rfl)) (je_tup (ja_cons (je_tup (ja_cons je_str (ja_cons (je_var (i := 6) (show 6 ∉ ([0, 4] : List Nat) by decide) rfl (.inl (by kernel_rfl))) (ja_cons (je_var (i := 1) (show 1 ∉ ([0, 4] : List Nat) by decide) rfl (.inl (by kernel_rfl))) (ja_cons (je_ix rfl (fun _ _ => rfl) (je_var (i := 8) (show 8 ∉ ([0, 4] : List Nat) by decide) rfl (.inl (by kernel_rfl))) je_int) ja_nil))))) (ja_cons je_non ja_nil)))))))))))
  (js_frz (i := 4) (show 4 ∈ ([0, 4] : List Nat) by decide) (free_I (show 0 ∈ ([0, 4] : List Nat) by decide) (show (4 : Nat) ≠ 0 by decide)) (js_one (js_ret (je_var (i := 4) (show 4 ∉ ([0] : List Nat) by decide) rfl (.inl (by kernel_rfl))))))))))
theorem h__law_claims_0 (E : MG w K mg) : HeldD P w K mg base 4 (He.ga K "_law_claims") (spI (kx K (fnA K)) 2 false F__law_claims) [] := by
  obtain ⟨fd, F0⟩ := E.fd__law_claims
  exact held_N F0 (fo__law_claims E F0) (b__law_claims F0)
theorem b__law_odd {fd : FuncData} (F : FunD K "_law_odd" "_law_odd" (defArgs s__law_odd) (defBody s__law_odd) (defScope s__law_odd) [] [] (He.ga K "_law_odd") fd) : L2.Binds K fd ["_law_purse_here"] [] := F.bindsN fun _ _ _ _ _ _ us hl => match us, hl with | [_], _ => rfl
theorem fo__law_odd (E : MG w K mg) {fd : FuncData} (F : FunD K "_law_odd" "_law_odd" (defArgs s__law_odd) (defBody s__law_odd) (defScope s__law_odd) [] [] (He.ga K "_law_odd") fd) : FnG P w K mg base CX0 2 (He.ga K "_law_odd") fd ["_law_purse_here"] (spI (kx K (fnA K)) 1 false F__law_odd) := by
  refine fn_I (lv := 1) (n := 1) (NN := 2) (nw := false) (own := [0]) (fb := m__law_odd) (k := kx K (fnA K)) (N := N__law_odd) F sc__law_odd rfl rfl (by decide) (by decide) (by decide) (fun cdv A outer s H E' M H0 a hr => ?_)
  unfold m__law_odd
  exact (js_cons (js_set (i := 1) (show 1 ∉ ([0] : List Nat) by decide) (free_I (show 0 ∈ ([0] : List Nat) by decide) (show (1 : Nat) ≠ 0 by decide)) sc__law_odd.nd rfl (.inl (by kernel_rfl)) (.inl rfl) (je_lst (ja_cons je_non (ja_cons je_bl (ja_cons je_bl (ja_cons je_int (ja_cons je_int (ja_cons (je_op op_sub opd_sub subD_nx je_int je_int) (ja_cons je_int (ja_cons je_str (ja_cons je_str (ja_cons je_str (ja_cons (je_tup ja_nil) (ja_cons (je_lst ja_nil) (ja_cons je_dct0 (ja_cons (je_tup (ja_cons je_int ja_nil)) (ja_cons (je_lst (ja_cons je_int ja_nil)) (ja_cons (je_tup (ja_cons (je_lst ja_nil) ja_nil)) (ja_cons (je_tup (ja_cons je_dct0 ja_nil)) (ja_cons (je_tup (ja_cons je_non ja_nil)) (ja_cons (je_tup (ja_cons je_int ja_nil)) ja_nil)))))))))))))))))))))
  (js_cons (js_set (i := 1) (show 1 ∉ ([0] : List Nat) by decide) (free_I (show 0 ∈ ([0] : List Nat) by decide) (show (1 : Nat) ≠ 0 by decide)) sc__law_odd.nd rfl (.inl (by kernel_rfl)) (.inl rfl) (je_op Dn.op_addX opd_add addD_nx (je_var (i := 1) (show 1 ∉ ([0] : List Nat) by decide) rfl (.inl (by kernel_rfl))) (je_lst (ja_cons (je_tup (ja_cons je_bl ja_nil)) (ja_cons (je_op op_pow opd_pow powD_nx je_int je_int) (ja_cons je_str (ja_cons je_str (ja_cons je_str (ja_cons (je_tup (ja_cons je_int (ja_cons je_int ja_nil))) (ja_cons (je_tup (ja_cons je_int (ja_cons je_int ja_nil))) (ja_cons (je_tup (ja_cons (je_tup (ja_cons je_int (ja_cons je_int ja_nil))) ja_nil)) (ja_cons (je_tup (ja_cons (je_tup ja_nil) (ja_cons (je_tup ja_nil) ja_nil))) ja_nil))))))))))))
  (js_one (js_ret (je_ix rfl (fun _ _ => rfl) (je_var (i := 1) (show 1 ∉ ([0] : List Nat) by decide) rfl (.inl (by kernel_rfl))) (jc_callI (i := 0) rfl (h__law_take_0 E) hr (show 1 ≤ 1 by decide) (by exact rfl) E.gf__law_take rfl (consA_len nilA_len) (show 0 ∈ ([0] : List Nat) by decide) rfl (.inl (by kernel_rfl)) (ja_cons je_int ja_nil)))))))
theorem h__law_odd_0 (E : MG w K mg) : HeldD P w K mg base 2 (He.ga K "_law_odd") (spI (kx K (fnA K)) 1 false F__law_odd) [] := by
  obtain ⟨fd, F0⟩ := E.fd__law_odd
  exact held_N F0 (fo__law_odd E F0) (b__law_odd F0)
theorem b__law_bent {fd : FuncData} (F : FunD K "_law_bent" "_law_bent" (defArgs s__law_bent) (defBody s__law_bent) (defScope s__law_bent) [] [] (He.ga K "_law_bent") fd) : L2.Binds K fd ["_law_purse_here", "_law_thing"] [] := F.bindsN fun _ _ _ _ _ _ us hl => match us, hl with | [_, _], _ => rfl
theorem fo__law_bent (E : MG w K mg) {fd : FuncData} (F : FunD K "_law_bent" "_law_bent" (defArgs s__law_bent) (defBody s__law_bent) (defScope s__law_bent) [] [] (He.ga K "_law_bent") fd) (B : L2.Binds K fd ["_law_purse_here", "_law_thing"] []) : ∀ k, FnG P w K mg base CX0 (2 + k + 1) (He.ga K "_law_bent") fd ["_law_purse_here", "_law_thing"] (spI (kx K (fnA K)) 2 false (F__law_bent k))
  | 0 => by
    refine fnG_of F sc__law_bent (fun vs H Q E h => ?_) (fun cdv A outer s H vs Q E hr hsp => ?_)
    · obtain ⟨M, a, d0, ds, vr, _, h1, _⟩ := h
      rw [h1] <;> rfl
    · obtain ⟨M, a, d0, ds, vr, _, _, _, _, _, _, h⟩ := hsp
      exact h.elim
  | k + 1 => by
    have A0 : HeldD P w K mg base (2 + k + 1) (He.ga K "_law_bent") (spI (kx K (fnA K)) 2 false (F__law_bent k)) [] := held_N F (fo__law_bent E F B k) B
    refine fn_I (lv := 2 + k + 1) (n := 2) (NN := 4) (nw := false) (own := [0]) (fb := m__law_bent (F__law_bent k)) (k := kx K (fnA K)) (N := N__law_bent) F sc__law_bent rfl rfl (by decide) (by decide) (by decide) (fun cdv A outer s H E' M H0 a hr => ?_)
    have hle := Nat.le_refl (2 + k + 1)
    unfold m__law_bent
    exact (js_cons (js_if (PW.pt (jw_and (jt_tru rfl (je_isi isiTup rfl (by exact rfl) E.fr_isinstance (by exact rfl) E.fr_tuple PyProof.Rows.boot_tuple (je_var (i := 1) (show 1 ∉ ([0] : List Nat) by decide) rfl (.inl (by kernel_rfl))))) (jw_and (jt_cmp (op_neT0 hr.units) opd_neT0 neT0_nx (by rfl) (je_var (i := 1) (show 1 ∉ ([0] : List Nat) by decide) rfl (.inl (by kernel_rfl))) (je_tup ja_nil)) (jw_and1 (jt_cmp op_gt opd_gt gtD_nx (by rfl) (jc_callI (i := 0) rfl (h__law_take_0 E) hr (show 1 ≤ 2 + k + 1 by omega) (by exact rfl) E.gf__law_take rfl (consA_len nilA_len) (show 0 ∈ ([0] : List Nat) by decide) rfl (.inl (by kernel_rfl)) (ja_cons je_int ja_nil)) je_int))))) (js_cons (js_par (i := 2) (j := 3) (show 2 ∉ ([0] : List Nat) by decide) (free_I (show 0 ∈ ([0] : List Nat) by decide) (show (2 : Nat) ≠ 0 by decide)) (show 3 ∉ ([0] : List Nat) by decide) (free_I (show 0 ∈ ([0] : List Nat) by decide) (show (3 : Nat) ≠ 0 by decide)) rfl sc__law_bent.nd rfl rfl (show (2 : Nat) ≠ 3 by decide) (by kernel_rfl) (by kernel_rfl) (jc_callI (i := 0) rfl (h__law_take_0 E) hr (show 1 ≤ 2 + k + 1 by omega) (by exact rfl) E.gf__law_take rfl (consA_len nilA_len) (show 0 ∈ ([0] : List Nat) by decide) rfl (.inl (by kernel_rfl)) (ja_cons (je_callB call_lenX cad_len lenD_nx (by exact rfl) E.fr_len PySem.boot_len (ja_cons (je_var (i := 1) (show 1 ∉ ([0] : List Nat) by decide) rfl (.inl (by kernel_rfl))) ja_nil)) ja_nil)) (jc_callI (i := 0) rfl (h__law_take_0 E) hr (show 1 ≤ 2 + k + 1 by omega) (by exact rfl) E.gf__law_take rfl (consA_len nilA_len) (show 0 ∈ ([0] : List Nat) by decide) rfl (.inl (by kernel_rfl)) (ja_cons je_int ja_nil)) rfl)
  (js_cons (js_if (jt_cmp (Dn.op_eqX hr.units) opd_eq eqD_nx (by rfl) (je_var (i := 3) (show 3 ∉ ([0] : List Nat) by decide) rfl (.inl (by kernel_rfl))) je_int) (js_one (js_ret (je_op Dn.op_addX opd_add addD_nx (je_sli rfl (je_var (i := 1) (show 1 ∉ ([0] : List Nat) by decide) rfl (.inl (by kernel_rfl))) jo_none (jo_some (je_var (i := 2) (show 2 ∉ ([0] : List Nat) by decide) rfl (.inl (by kernel_rfl))))) (je_sli rfl (je_var (i := 1) (show 1 ∉ ([0] : List Nat) by decide) rfl (.inl (by kernel_rfl))) (jo_some (je_op Dn.op_addX opd_add addD_nx (je_var (i := 2) (show 2 ∉ ([0] : List Nat) by decide) rfl (.inl (by kernel_rfl))) je_int)) jo_none)))) js_nil)
  (js_cons (js_if (jt_cmp (Dn.op_eqX hr.units) opd_eq eqD_nx (by rfl) (je_var (i := 3) (show 3 ∉ ([0] : List Nat) by decide) rfl (.inl (by kernel_rfl))) je_int) (js_one (js_ret (je_op Dn.op_addX opd_add addD_nx (je_sli rfl (je_var (i := 1) (show 1 ∉ ([0] : List Nat) by decide) rfl (.inl (by kernel_rfl))) jo_none (jo_some (je_op Dn.op_addX opd_add addD_nx (je_var (i := 2) (show 2 ∉ ([0] : List Nat) by decide) rfl (.inl (by kernel_rfl))) je_int))) (je_sli rfl (je_var (i := 1) (show 1 ∉ ([0] : List Nat) by decide) rfl (.inl (by kernel_rfl))) (jo_some (je_var (i := 2) (show 2 ∉ ([0] : List Nat) by decide) rfl (.inl (by kernel_rfl)))) jo_none)))) js_nil)
  (js_cons (js_if (jt_cmp (Dn.op_eqX hr.units) opd_eq eqD_nx (by rfl) (je_var (i := 3) (show 3 ∉ ([0] : List Nat) by decide) rfl (.inl (by kernel_rfl))) je_int) (js_one (js_ret (je_op Dn.op_addX opd_add addD_nx (je_op Dn.op_addX opd_add addD_nx (je_sli rfl (je_var (i := 1) (show 1 ∉ ([0] : List Nat) by decide) rfl (.inl (by kernel_rfl))) jo_none (jo_some (je_var (i := 2) (show 2 ∉ ([0] : List Nat) by decide) rfl (.inl (by kernel_rfl))))) (je_rev rfl (je_sli rfl (je_var (i := 1) (show 1 ∉ ([0] : List Nat) by decide) rfl (.inl (by kernel_rfl))) (jo_some (je_var (i := 2) (show 2 ∉ ([0] : List Nat) by decide) rfl (.inl (by kernel_rfl)))) (jo_some (je_op Dn.op_addX opd_add addD_nx (je_var (i := 2) (show 2 ∉ ([0] : List Nat) by decide) rfl (.inl (by kernel_rfl))) je_int))))) (je_sli rfl (je_var (i := 1) (show 1 ∉ ([0] : List Nat) by decide) rfl (.inl (by kernel_rfl))) (jo_some (je_op Dn.op_addX opd_add addD_nx (je_var (i := 2) (show 2 ∉ ([0] : List Nat) by decide) rfl (.inl (by kernel_rfl))) je_int)) jo_none)))) js_nil)
  (js_one (js_ret (je_op Dn.op_addX opd_add addD_nx (je_op Dn.op_addX opd_add addD_nx (je_sli rfl (je_var (i := 1) (show 1 ∉ ([0] : List Nat) by decide) rfl (.inl (by kernel_rfl))) jo_none (jo_some (je_var (i := 2) (show 2 ∉ ([0] : List Nat) by decide) rfl (.inl (by kernel_rfl))))) (je_tup (ja_cons (jc_callI (i := 0) rfl (A0) hr hle (by exact rfl) E.gf__law_bent rfl (consA_len nilA_len) (show 0 ∈ ([0] : List Nat) by decide) rfl (.inl (by kernel_rfl)) (ja_cons (je_ix rfl (fun _ _ => rfl) (je_var (i := 1) (show 1 ∉ ([0] : List Nat) by decide) rfl (.inl (by kernel_rfl))) (je_var (i := 2) (show 2 ∉ ([0] : List Nat) by decide) rfl (.inl (by kernel_rfl)))) ja_nil)) ja_nil))) (je_sli rfl (je_var (i := 1) (show 1 ∉ ([0] : List Nat) by decide) rfl (.inl (by kernel_rfl))) (jo_some (je_op Dn.op_addX opd_add addD_nx (je_var (i := 2) (show 2 ∉ ([0] : List Nat) by decide) rfl (.inl (by kernel_rfl))) je_int)) jo_none)))))))) js_nil)
  (js_cons (js_if (jt_tru rfl (je_isi isiTup rfl (by exact rfl) E.fr_isinstance (by exact rfl) E.fr_tuple PyProof.Rows.boot_tuple (je_var (i := 1) (show 1 ∉ ([0] : List Nat) by decide) rfl (.inl (by kernel_rfl))))) (js_one (js_ret (je_ix rfl (fun _ _ => rfl) (je_lst (ja_cons (je_callTy call_list_of cad_list listD_nx (by exact rfl) E.fr_list PyProof.Rows.boot_list (ja_cons (je_var (i := 1) (show 1 ∉ ([0] : List Nat) by decide) rfl (.inl (by kernel_rfl))) ja_nil)) (ja_cons (je_op Dn.op_addX opd_add addD_nx (je_var (i := 1) (show 1 ∉ ([0] : List Nat) by decide) rfl (.inl (by kernel_rfl))) (je_tup (ja_cons (jc_callI (i := 0) rfl (h__law_odd_0 E) hr (show 2 ≤ 2 + k + 1 by omega) (by exact rfl) E.gf__law_odd rfl nilA_len (show 0 ∈ ([0] : List Nat) by decide) rfl (.inl (by kernel_rfl)) ja_nil) ja_nil))) (ja_cons (je_rev rfl (je_var (i := 1) (show 1 ∉ ([0] : List Nat) by decide) rfl (.inl (by kernel_rfl)))) (ja_cons (jc_callI (i := 0) rfl (h__law_odd_0 E) hr (show 2 ≤ 2 + k + 1 by omega) (by exact rfl) E.gf__law_odd rfl nilA_len (show 0 ∈ ([0] : List Nat) by decide) rfl (.inl (by kernel_rfl)) ja_nil) ja_nil))))) (jc_callI (i := 0) rfl (h__law_take_0 E) hr (show 1 ≤ 2 + k + 1 by omega) (by exact rfl) E.gf__law_take rfl (consA_len nilA_len) (show 0 ∈ ([0] : List Nat) by decide) rfl (.inl (by kernel_rfl)) (ja_cons je_int ja_nil))))) js_nil)
  (js_cons (js_if (jt_tru rfl (je_isi isiBool rfl (by exact rfl) E.fr_isinstance (by exact rfl) E.fr_bool PyProof.Rows.boot_bool (je_var (i := 1) (show 1 ∉ ([0] : List Nat) by decide) rfl (.inl (by kernel_rfl))))) (js_one (js_ret (je_ix rfl (fun _ _ => rfl) (je_lst (ja_cons (je_not (je_var (i := 1) (show 1 ∉ ([0] : List Nat) by decide) rfl (.inl (by kernel_rfl)))) (ja_cons (je_callTy call_int1 cad_int intD_nx (by exact rfl) E.fr_int PyProof.Rows.boot_int (ja_cons (je_var (i := 1) (show 1 ∉ ([0] : List Nat) by decide) rfl (.inl (by kernel_rfl))) ja_nil)) (ja_cons (jc_callI (i := 0) rfl (h__law_odd_0 E) hr (show 2 ≤ 2 + k + 1 by omega) (by exact rfl) E.gf__law_odd rfl nilA_len (show 0 ∈ ([0] : List Nat) by decide) rfl (.inl (by kernel_rfl)) ja_nil) ja_nil)))) (jc_callI (i := 0) rfl (h__law_take_0 E) hr (show 1 ≤ 2 + k + 1 by omega) (by exact rfl) E.gf__law_take rfl (consA_len nilA_len) (show 0 ∈ ([0] : List Nat) by decide) rfl (.inl (by kernel_rfl)) (ja_cons je_int ja_nil))))) js_nil)
  (js_cons (js_if (jt_tru rfl (je_isi isiInt rfl (by exact rfl) E.fr_isinstance (by exact rfl) E.fr_int PyProof.Rows.boot_int (je_var (i := 1) (show 1 ∉ ([0] : List Nat) by decide) rfl (.inl (by kernel_rfl))))) (js_one (js_ret (je_ix rfl (fun _ _ => rfl) (je_lst (ja_cons (je_op Dn.op_addX opd_add addD_nx (je_var (i := 1) (show 1 ∉ ([0] : List Nat) by decide) rfl (.inl (by kernel_rfl))) je_int) (ja_cons (je_op op_sub opd_sub subD_nx (je_var (i := 1) (show 1 ∉ ([0] : List Nat) by decide) rfl (.inl (by kernel_rfl))) je_int) (ja_cons (je_cmp (Dn.op_eqX hr.units) opd_eq eqD_nx (by rfl) (je_var (i := 1) (show 1 ∉ ([0] : List Nat) by decide) rfl (.inl (by kernel_rfl))) je_int) (ja_cons (jc_callI (i := 0) rfl (h__law_odd_0 E) hr (show 2 ≤ 2 + k + 1 by omega) (by exact rfl) E.gf__law_odd rfl nilA_len (show 0 ∈ ([0] : List Nat) by decide) rfl (.inl (by kernel_rfl)) ja_nil) (ja_cons (je_op Dn.op_addX opd_add addD_nx (je_var (i := 1) (show 1 ∉ ([0] : List Nat) by decide) rfl (.inl (by kernel_rfl))) je_int) ja_nil)))))) (jc_callI (i := 0) rfl (h__law_take_0 E) hr (show 1 ≤ 2 + k + 1 by omega) (by exact rfl) E.gf__law_take rfl (consA_len nilA_len) (show 0 ∈ ([0] : List Nat) by decide) rfl (.inl (by kernel_rfl)) (ja_cons je_int ja_nil))))) js_nil)
  (js_cons (js_if (jt_tru rfl (je_isi isiStr rfl (by exact rfl) E.fr_isinstance (by exact rfl) E.fr_str PyProof.Rows.boot_str (je_var (i := 1) (show 1 ∉ ([0] : List Nat) by decide) rfl (.inl (by kernel_rfl))))) (js_one (js_ret (je_ix rfl (fun _ _ => rfl) (je_lst (ja_cons (je_op Dn.op_addX opd_add addD_nx (je_var (i := 1) (show 1 ∉ ([0] : List Nat) by decide) rfl (.inl (by kernel_rfl))) je_str) (ja_cons (je_sli rfl (je_var (i := 1) (show 1 ∉ ([0] : List Nat) by decide) rfl (.inl (by kernel_rfl))) (jo_some je_int) jo_none) (ja_cons (je_rev rfl (je_var (i := 1) (show 1 ∉ ([0] : List Nat) by decide) rfl (.inl (by kernel_rfl)))) (ja_cons (je_upper (je_var (i := 1) (show 1 ∉ ([0] : List Nat) by decide) rfl (.inl (by kernel_rfl)))) (ja_cons (jc_callI (i := 0) rfl (h__law_odd_0 E) hr (show 2 ≤ 2 + k + 1 by omega) (by exact rfl) E.gf__law_odd rfl nilA_len (show 0 ∈ ([0] : List Nat) by decide) rfl (.inl (by kernel_rfl)) ja_nil) ja_nil)))))) (jc_callI (i := 0) rfl (h__law_take_0 E) hr (show 1 ≤ 2 + k + 1 by omega) (by exact rfl) E.gf__law_take rfl (consA_len nilA_len) (show 0 ∈ ([0] : List Nat) by decide) rfl (.inl (by kernel_rfl)) (ja_cons je_int ja_nil))))) js_nil)
  (js_one (js_ret (jc_callI (i := 0) rfl (h__law_odd_0 E) hr (show 2 ≤ 2 + k + 1 by omega) (by exact rfl) E.gf__law_odd rfl nilA_len (show 0 ∈ ([0] : List Nat) by decide) rfl (.inl (by kernel_rfl)) ja_nil))))))))
theorem h__law_bent_0 (E : MG w K mg) (k : Nat) : HeldD P w K mg base (2 + k + 1) (He.ga K "_law_bent") (spI (kx K (fnA K)) 2 false (F__law_bent k)) [] := by
  obtain ⟨fd, F0⟩ := E.fd__law_bent
  exact held_N F0 (fo__law_bent E F0 (b__law_bent F0) k) (b__law_bent F0)
theorem b__law_spoilt {fd : FuncData} (F : FunD K "_law_spoilt" "_law_spoilt" (defArgs s__law_spoilt) (defBody s__law_spoilt) (defScope s__law_spoilt) [] [] (He.ga K "_law_spoilt") fd) : L2.Binds K fd ["_law_purse_here", "_law_say_so", "_law_sheet"] [] := F.bindsN fun _ _ _ _ _ _ us hl => match us, hl with | [_, _, _], _ => rfl
theorem fo__law_spoilt (E : MG w K mg) {fd : FuncData} (F : FunD K "_law_spoilt" "_law_spoilt" (defArgs s__law_spoilt) (defBody s__law_spoilt) (defScope s__law_spoilt) [] [] (He.ga K "_law_spoilt") fd) : FnG P w K mg base CX0 16 (He.ga K "_law_spoilt") fd ["_law_purse_here", "_law_say_so", "_law_sheet"] (spI (kx K (fnA K)) 3 false F__law_spoilt) := by
  refine fn_I (lv := 15) (n := 3) (NN := 5) (nw := false) (own := [0]) (fb := m__law_spoilt) (k := kx K (fnA K)) (N := N__law_spoilt) F sc__law_spoilt rfl rfl (by decide) (by decide) (by decide) (fun cdv A outer s H E' M H0 a hr => ?_)
  unfold m__law_spoilt
  exact (js_cons (js_for (nmG_nx 3) PassesOwn.never rfl (ji_rng1 (by exact rfl) E.fr_range (ja_cons (je_op Dn.op_addX opd_add addD_nx je_int (jc_callI (i := 0) rfl (h__law_take_0 E) hr (show 1 ≤ 15 by decide) (by exact rfl) E.gf__law_take rfl (consA_len nilA_len) (show 0 ∈ ([0] : List Nat) by decide) rfl (.inl (by kernel_rfl)) (ja_cons je_int ja_nil))) ja_nil)) (jg_name (i := 3) (show 3 ∉ ([0] : List Nat) by decide) (free_I (show 0 ∈ ([0] : List Nat) by decide) (show (3 : Nat) ≠ 0 by decide)) sc__law_spoilt.nd rfl (.inl (by kernel_rfl)) (.inl rfl))
  (js_cons (js_set (i := 4) (show 4 ∉ ([0] : List Nat) by decide) (free_I (show 0 ∈ ([0] : List Nat) by decide) (show (4 : Nat) ≠ 0 by decide)) sc__law_spoilt.nd rfl (.inl (by kernel_rfl)) (.inl rfl) (jc_callI (i := 0) rfl (h__law_take_0 E) hr (show 1 ≤ 15 by decide) (by exact rfl) E.gf__law_take rfl (consA_len nilA_len) (show 0 ∈ ([0] : List Nat) by decide) rfl (.inl (by kernel_rfl)) (ja_cons (je_callB call_lenX cad_len lenD_nx (by exact rfl) E.fr_len PySem.boot_len (ja_cons (je_var (i := 1) (show 1 ∉ ([0] : List Nat) by decide) rfl (.inl (by kernel_rfl))) ja_nil)) ja_nil)))
  (js_one (js_if (jt_cmp (Dn.op_eqX hr.units) opd_eq eqD_nx (by rfl) (je_var (i := 4) (show 4 ∉ ([0] : List Nat) by decide) rfl (.inl (by kernel_rfl))) je_int) (js_one (js_set (i := 2) (show 2 ∉ ([0] : List Nat) by decide) (free_I (show 0 ∈ ([0] : List Nat) by decide) (show (2 : Nat) ≠ 0 by decide)) sc__law_spoilt.nd rfl (.inl (by kernel_rfl)) (.inl rfl) (jc_callI (i := 0) rfl (h__law_bent_0 E 12) hr (show 2 + 12 + 1 ≤ 15 by decide) (by exact rfl) E.gf__law_bent rfl (consA_len nilA_len) (show 0 ∈ ([0] : List Nat) by decide) rfl (.inl (by kernel_rfl)) (ja_cons (je_var (i := 2) (show 2 ∉ ([0] : List Nat) by decide) rfl (.inl (by kernel_rfl))) ja_nil)))) (js_one (js_set (i := 1) (show 1 ∉ ([0] : List Nat) by decide) (free_I (show 0 ∈ ([0] : List Nat) by decide) (show (1 : Nat) ≠ 0 by decide)) sc__law_spoilt.nd rfl (.inl (by kernel_rfl)) (.inl rfl) (je_op Dn.op_addX opd_add addD_nx (je_op Dn.op_addX opd_add addD_nx (je_sli rfl (je_var (i := 1) (show 1 ∉ ([0] : List Nat) by decide) rfl (.inl (by kernel_rfl))) jo_none (jo_some (je_var (i := 4) (show 4 ∉ ([0] : List Nat) by decide) rfl (.inl (by kernel_rfl))))) (je_tup (ja_cons (jc_callI (i := 0) rfl (h__law_bent_0 E 12) hr (show 2 + 12 + 1 ≤ 15 by decide) (by exact rfl) E.gf__law_bent rfl (consA_len nilA_len) (show 0 ∈ ([0] : List Nat) by decide) rfl (.inl (by kernel_rfl)) (ja_cons (je_ix rfl (fun _ _ => rfl) (je_var (i := 1) (show 1 ∉ ([0] : List Nat) by decide) rfl (.inl (by kernel_rfl))) (je_var (i := 4) (show 4 ∉ ([0] : List Nat) by decide) rfl (.inl (by kernel_rfl)))) ja_nil)) ja_nil))) (je_sli rfl (je_var (i := 1) (show 1 ∉ ([0] : List Nat) by decide) rfl (.inl (by kernel_rfl))) (jo_some (je_op Dn.op_addX opd_add addD_nx (je_var (i := 4) (show 4 ∉ ([0] : List Nat) by decide) rfl (.inl (by kernel_rfl))) je_int)) jo_none))))))))
  (js_one (js_ret (je_tup (ja_cons (je_var (i := 1) (show 1 ∉ ([0] : List Nat) by decide) rfl (.inl (by kernel_rfl))) (ja_cons (je_var (i := 2) (show 2 ∉ ([0] : List Nat) by decide) rfl (.inl (by kernel_rfl))) ja_nil))))))
theorem h__law_spoilt_0 (E : MG w K mg) : HeldD P w K mg base 16 (He.ga K "_law_spoilt") (spI (kx K (fnA K)) 3 false F__law_spoilt) [] := by
  obtain ⟨fd, F0⟩ := E.fd__law_spoilt
  exact held_N F0 (fo__law_spoilt E F0) (b__law_spoilt F0)
theorem b__law_room {fd : FuncData} (F : FunD K "_law_room" "_law_room" (defArgs s__law_room) (defBody s__law_room) (defScope s__law_room) [] [] (He.ga K "_law_room") fd) : L2.Binds K fd ["_law_rows", "_law_number"] [] := F.bindsN fun _ _ _ _ _ _ us hl => match us, hl with | [_, _], _ => rfl
theorem fo__law_room (E : MG w K mg) {fd : FuncData} (F : FunD K "_law_room" "_law_room" (defArgs s__law_room) (defBody s__law_room) (defScope s__law_room) [] [] (He.ga K "_law_room") fd) : FnG P w K mg base CX0 1 (He.ga K "_law_room") fd ["_law_rows", "_law_number"] (spP (kx K (fnA K)) 2 false F__law_room) := by
  refine fn_P (lv := 0) (n := 2) (NN := 6) (nw := false) (own := []) (fb := m__law_room) (k := kx K (fnA K)) (N := N__law_room) F sc__law_room rfl rfl (by decide) (fun cdv A outer s H E' M H0 W hr => ?_)
  unfold m__law_room
  exact (js_cons (js_for (tupG_nx (consG_nx (nmG_nx 2) (consG_nx (nmG_nx 3) (consG_nx (nmG_nx 4) (consG_nx (nmG_nx 5) nilG_nx))))) PassesOwn.never rfl (ji_seq rfl (je_var (i := 0) (show 0 ∉ ([] : List Nat) by decide) rfl (.inl (by kernel_rfl)))) (jg_tup rfl rfl (jgs_cons (jg_name (i := 2) (show 2 ∉ ([] : List Nat) by decide) (free_P rfl) sc__law_room.nd rfl (.inl (by kernel_rfl)) (.inl rfl)) (jgs_cons (jg_name (i := 3) (show 3 ∉ ([] : List Nat) by decide) (free_P rfl) sc__law_room.nd rfl (.inl (by kernel_rfl)) (.inl rfl)) (jgs_cons (jg_name (i := 4) (show 4 ∉ ([] : List Nat) by decide) (free_P rfl) sc__law_room.nd rfl (.inl (by kernel_rfl)) (.inl rfl)) (jgs_cons (jg_name (i := 5) (show 5 ∉ ([] : List Nat) by decide) (free_P rfl) sc__law_room.nd rfl (.inl (by kernel_rfl)) (.inl rfl)) jgs_nil)))))
  (js_cons (js_if (PW.pt (jw_and (jt_cmp (Dn.op_eqX hr.units) opd_eq eqD_nx (by rfl) (je_var (i := 3) (show 3 ∉ ([] : List Nat) by decide) rfl (.inl (by kernel_rfl))) je_int) (jw_and1 (jt_cmp (Dn.op_eqX hr.units) opd_eq eqD_nx (by rfl) (je_var (i := 1) (show 1 ∉ ([] : List Nat) by decide) rfl (.inl (by kernel_rfl))) (je_var (i := 2) (show 2 ∉ ([] : List Nat) by decide) rfl (.inl (by kernel_rfl))))))) (js_one (js_ret (je_var (i := 4) (show 4 ∉ ([] : List Nat) by decide) rfl (.inl (by kernel_rfl))))) js_nil)
  (js_one (js_if (PW.pt (jw_and (jt_cmp op_gt opd_gt gtD_nx (by rfl) (je_var (i := 3) (show 3 ∉ ([] : List Nat) by decide) rfl (.inl (by kernel_rfl))) je_int) (jw_and (jt_cmp op_ge opd_ge geD_nx (by rfl) (je_var (i := 1) (show 1 ∉ ([] : List Nat) by decide) rfl (.inl (by kernel_rfl))) (je_var (i := 2) (show 2 ∉ ([] : List Nat) by decide) rfl (.inl (by kernel_rfl)))) (jw_and1 (jt_cmp (Dn.op_eqX hr.units) opd_eq eqD_nx (by rfl) (je_op op_modN opd_mod modD_nx (je_op op_sub opd_sub subD_nx (je_var (i := 1) (show 1 ∉ ([] : List Nat) by decide) rfl (.inl (by kernel_rfl))) (je_var (i := 2) (show 2 ∉ ([] : List Nat) by decide) rfl (.inl (by kernel_rfl)))) (je_var (i := 3) (show 3 ∉ ([] : List Nat) by decide) rfl (.inl (by kernel_rfl)))) je_int))))) (js_one (js_ret (je_op Dn.op_addX opd_add addD_nx (je_var (i := 4) (show 4 ∉ ([] : List Nat) by decide) rfl (.inl (by kernel_rfl))) (je_op Dn.op_mulX opd_mul mulD_nx (je_var (i := 5) (show 5 ∉ ([] : List Nat) by decide) rfl (.inl (by kernel_rfl))) (je_op Dn.op_divX opd_fdiv fdivD_nx (je_op op_sub opd_sub subD_nx (je_var (i := 1) (show 1 ∉ ([] : List Nat) by decide) rfl (.inl (by kernel_rfl))) (je_var (i := 2) (show 2 ∉ ([] : List Nat) by decide) rfl (.inl (by kernel_rfl)))) (je_var (i := 3) (show 3 ∉ ([] : List Nat) by decide) rfl (.inl (by kernel_rfl)))))))) js_nil))))
  (js_one (js_ret je_non)))
theorem h__law_room_0 (E : MG w K mg) : HeldD P w K mg base 1 (He.ga K "_law_room") (spP (kx K (fnA K)) 2 false F__law_room) [] := by
  obtain ⟨fd, F0⟩ := E.fd__law_room
  exact held_N F0 (fo__law_room E F0) (b__law_room F0)
theorem b__law_shared {fd : FuncData} (F : FunD K "_law_shared" "_law_shared" (defArgs s__law_shared) (defBody s__law_shared) (defScope s__law_shared) [] [] (He.ga K "_law_shared") fd) : L2.Binds K fd ["_law_one", "_law_other"] [] := F.bindsN fun _ _ _ _ _ _ us hl => match us, hl with | [_, _], _ => rfl
theorem fo__law_shared (E : MG w K mg) {fd : FuncData} (F : FunD K "_law_shared" "_law_shared" (defArgs s__law_shared) (defBody s__law_shared) (defScope s__law_shared) [] [] (He.ga K "_law_shared") fd) : FnG P w K mg base CX0 1 (He.ga K "_law_shared") fd ["_law_one", "_law_other"] (spP (kx K (fnA K)) 2 false F__law_shared) := by
  refine fn_P (lv := 0) (n := 2) (NN := 2) (nw := false) (own := []) (fb := m__law_shared) (k := kx K (fnA K)) (N := N__law_shared) F sc__law_shared rfl rfl (by decide) (fun cdv A outer s H E' M H0 W hr => ?_)
  unfold m__law_shared
  exact (js_cons (js_while 1000000 PassesOwn.never (jt_cmp op_gt opd_gt gtD_nx (by rfl) (je_var (i := 1) (show 1 ∉ ([] : List Nat) by decide) rfl (.inl (by kernel_rfl))) je_int)
  (js_one (js_par (i := 0) (j := 1) (show 0 ∉ ([] : List Nat) by decide) (free_P rfl) (show 1 ∉ ([] : List Nat) by decide) (free_P rfl) rfl sc__law_shared.nd rfl rfl (show (0 : Nat) ≠ 1 by decide) (by kernel_rfl) (by kernel_rfl) (je_var (i := 1) (show 1 ∉ ([] : List Nat) by decide) rfl (.inl (by kernel_rfl))) (je_op op_modN opd_mod modD_nx (je_var (i := 0) (show 0 ∉ ([] : List Nat) by decide) rfl (.inl (by kernel_rfl))) (je_var (i := 1) (show 1 ∉ ([] : List Nat) by decide) rfl (.inl (by kernel_rfl)))) rfl)))
  (js_one (js_ret (je_var (i := 0) (show 0 ∉ ([] : List Nat) by decide) rfl (.inl (by kernel_rfl))))))
theorem h__law_shared_0 (E : MG w K mg) : HeldD P w K mg base 1 (He.ga K "_law_shared") (spP (kx K (fnA K)) 2 false F__law_shared) [] := by
  obtain ⟨fd, F0⟩ := E.fd__law_shared
  exact held_N F0 (fo__law_shared E F0) (b__law_shared F0)
theorem b__law_spots {fd : FuncData} (F : FunD K "_law_spots" "_law_spots" (defArgs s__law_spots) (defBody s__law_spots) (defScope s__law_spots) [] [] (He.ga K "_law_spots") fd) : L2.Binds K fd ["_law_rows", "_law_lines"] [] := F.bindsN fun _ _ _ _ _ _ us hl => match us, hl with | [_, _], _ => rfl
theorem fo__law_spots (E : MG w K mg) {fd : FuncData} (F : FunD K "_law_spots" "_law_spots" (defArgs s__law_spots) (defBody s__law_spots) (defScope s__law_spots) [] [] (He.ga K "_law_spots") fd) : FnG P w K mg base CX0 2 (He.ga K "_law_spots") fd ["_law_rows", "_law_lines"] (spP (kx K (fnA K)) 2 false F__law_spots) := by
  refine fn_P (lv := 1) (n := 2) (NN := 12) (nw := false) (own := [4]) (fb := m__law_spots) (k := kx K (fnA K)) (N := N__law_spots) F sc__law_spots rfl rfl (by decide) (fun cdv A outer s H E' M H0 W hr => ?_)
  unfold m__law_spots
  exact (js_cons (js_set (i := 2) (show 2 ∉ ([4] : List Nat) by decide) (free_P rfl) sc__law_spots.nd rfl (.inl (by kernel_rfl)) (.inl rfl) je_int)
  (js_cons (js_for (nmG_nx 3) PassesOwn.never rfl (ji_seq rfl (je_op Dn.op_addX opd_add addD_nx (je_var (i := 0) (show 0 ∉ ([4] : List Nat) by decide) rfl (.inl (by kernel_rfl))) (je_var (i := 1) (show 1 ∉ ([4] : List Nat) by decide) rfl (.inl (by kernel_rfl))))) (jg_name (i := 3) (show 3 ∉ ([4] : List Nat) by decide) (free_P rfl) sc__law_spots.nd rfl (.inl (by kernel_rfl)) (.inl rfl))
  (js_one (js_set (i := 2) (show 2 ∉ ([4] : List Nat) by decide) (free_P rfl) sc__law_spots.nd rfl (.inl (by kernel_rfl)) (.inl rfl) (je_op Dn.op_divX opd_fdiv fdivD_nx (je_op Dn.op_mulX opd_mul mulD_nx (je_var (i := 2) (show 2 ∉ ([4] : List Nat) by decide) rfl (.inl (by kernel_rfl))) (je_callB (call_maxX rfl) cad_max maxD_nx (by exact rfl) E.fr_max PyProof.Rows.boot_max (ja_cons je_int (ja_cons (je_ix rfl (fun _ _ => rfl) (je_var (i := 3) (show 3 ∉ ([4] : List Nat) by decide) rfl (.inl (by kernel_rfl))) je_int) ja_nil)))) (jc_call (h__law_shared_0 E) hr (show 1 ≤ 1 by decide) (by exact rfl) E.gf__law_shared (fun _ _ => rfl) rfl (consA_len (consA_len nilA_len)) (ja_cons (je_var (i := 2) (show 2 ∉ ([4] : List Nat) by decide) rfl (.inl (by kernel_rfl))) (ja_cons (je_callB (call_maxX rfl) cad_max maxD_nx (by exact rfl) E.fr_max PyProof.Rows.boot_max (ja_cons je_int (ja_cons (je_ix rfl (fun _ _ => rfl) (je_var (i := 3) (show 3 ∉ ([4] : List Nat) by decide) rfl (.inl (by kernel_rfl))) je_int) ja_nil))) ja_nil)))))))
  (js_cons (js_setO (i := 4) (show 4 ∈ ([4] : List Nat) by decide) (free_P rfl) sc__law_spots.nd rfl (.inl (by kernel_rfl)) (.inl rfl) (jf_lrng rfl (by exact rfl) E.fr_list (by exact rfl) E.fr_range (je_op Dn.op_mulX opd_mul mulD_nx je_int (je_var (i := 2) (show 2 ∉ ([4] : List Nat) by decide) rfl (.inl (by kernel_rfl))))))
  (js_cons (js_for (tupG_nx (consG_nx (nmG_nx 5) (consG_nx (nmG_nx 6) (consG_nx (nmG_nx 7) (consG_nx (nmG_nx 8) nilG_nx))))) PassesOwn.never rfl (ji_seq rfl (je_op Dn.op_addX opd_add addD_nx (je_var (i := 0) (show 0 ∉ ([4] : List Nat) by decide) rfl (.inl (by kernel_rfl))) (je_var (i := 1) (show 1 ∉ ([4] : List Nat) by decide) rfl (.inl (by kernel_rfl))))) (jg_tup rfl rfl (jgs_cons (jg_name (i := 5) (show 5 ∉ ([4] : List Nat) by decide) (free_P rfl) sc__law_spots.nd rfl (.inr (by kernel_rfl)) (.inl rfl)) (jgs_cons (jg_name (i := 6) (show 6 ∉ ([4] : List Nat) by decide) (free_P rfl) sc__law_spots.nd rfl (.inr (by kernel_rfl)) (.inl rfl)) (jgs_cons (jg_name (i := 7) (show 7 ∉ ([4] : List Nat) by decide) (free_P rfl) sc__law_spots.nd rfl (.inl (by kernel_rfl)) (.inl rfl)) (jgs_cons (jg_name (i := 8) (show 8 ∉ ([4] : List Nat) by decide) (free_P rfl) sc__law_spots.nd rfl (.inl (by kernel_rfl)) (.inl rfl)) jgs_nil)))))
  (js_cons (js_set (i := 9) (show 9 ∉ ([4] : List Nat) by decide) (free_P rfl) sc__law_spots.nd rfl (.inl (by kernel_rfl)) (.inl rfl) (je_lst (ja_cons (je_var (i := 5) (show 5 ∉ ([4] : List Nat) by decide) rfl (.inr (.inl (by kernel_rfl)))) (ja_cons (je_op Dn.op_addX opd_add addD_nx (je_var (i := 5) (show 5 ∉ ([4] : List Nat) by decide) rfl (.inr (.inl (by kernel_rfl)))) (je_var (i := 2) (show 2 ∉ ([4] : List Nat) by decide) rfl (.inl (by kernel_rfl)))) ja_nil))))
  (js_cons (js_if (jt_cmp op_gt opd_gt gtD_nx (by rfl) (je_var (i := 6) (show 6 ∉ ([4] : List Nat) by decide) rfl (.inr (.inl (by kernel_rfl)))) je_int) (js_one (js_setLc (i := 9) (own := [("_law_k", 11)]) (.inl ⟨(show 9 ∉ ([4] : List Nat) by decide), (free_P rfl)⟩) rfl sc__law_spots.nd rfl (by kernel_rfl) (sw_true rfl (by kernel_rfl) rfl (by kernel_rfl)) (okv_P rfl (show ∀ v ∈ ([11] : List Nat), v ∉ ([4] : List Nat) by decide)) (ji_rng1 (by exact rfl) E.fr_range (ja_cons (je_op Dn.op_divX opd_fdiv fdivD_nx (je_var (i := 2) (show 2 ∉ ([4] : List Nat) by decide) rfl (.inl (by kernel_rfl))) (je_var (i := 6) (show 6 ∉ ([4] : List Nat) by decide) rfl (.inr (.inl (by kernel_rfl))))) ja_nil)) (blkOk_by (own := [("_law_k", 11)]) (N := N__law_spots) (sc := defScope s__law_spots) (by decide +kernel)) (fun _ _ _ _ _ _ => (jv_name (i := 11) (by decide) (show 11 ∉ ([4] : List Nat) by decide) (free_P rfl) sc__law_spots.nd rfl (.inl (by kernel_rfl)) (.inr (by kernel_rfl)))) (fun _ _ _ _ _ _ => jts_nil) (fun _ _ _ _ _ _ => (je_op Dn.op_addX opd_add addD_nx (je_var (i := 5) (show 5 ∉ ([4] : List Nat) by decide) rfl (.inr (.inl (by kernel_rfl)))) (je_op Dn.op_mulX opd_mul mulD_nx (je_var (i := 6) (show 6 ∉ ([4] : List Nat) by decide) rfl (.inr (.inl (by kernel_rfl)))) (je_var (i := 11) (show 11 ∉ ([4] : List Nat) by decide) rfl (.inl (by kernel_rfl)))))))) js_nil)
  (js_one (js_for (nmG_nx 10) PassesOwn.never rfl (ji_seq rfl (je_var (i := 9) (show 9 ∉ ([4] : List Nat) by decide) rfl (.inl (by kernel_rfl)))) (jg_name (i := 10) (show 10 ∉ ([4] : List Nat) by decide) (free_P rfl) sc__law_spots.nd rfl (.inl (by kernel_rfl)) (.inl rfl))
  (js_one (js_ext (i := 4) (show 4 ∈ ([4] : List Nat) by decide) rfl (.inl (by kernel_rfl)) (je_lst (ja_cons (je_var (i := 10) (show 10 ∉ ([4] : List Nat) by decide) rfl (.inl (by kernel_rfl))) (ja_cons (je_op Dn.op_addX opd_add addD_nx (je_var (i := 10) (show 10 ∉ ([4] : List Nat) by decide) rfl (.inl (by kernel_rfl))) (je_var (i := 2) (show 2 ∉ ([4] : List Nat) by decide) rfl (.inl (by kernel_rfl)))) ja_nil))))))))))
  (js_frz (i := 4) (show 4 ∈ ([4] : List Nat) by decide) (free_P rfl) (js_one (js_ret (je_var (i := 4) (show 4 ∉ ([] : List Nat) by decide) rfl (.inl (by kernel_rfl))))))))))
theorem h__law_spots_0 (E : MG w K mg) : HeldD P w K mg base 2 (He.ga K "_law_spots") (spP (kx K (fnA K)) 2 false F__law_spots) [] := by
  obtain ⟨fd, F0⟩ := E.fd__law_spots
  exact held_N F0 (fo__law_spots E F0) (b__law_spots F0)
theorem b__law_are_alike {fd : FuncData} (F : FunD K "_law_are_alike" "_law_are_alike" (defArgs s__law_are_alike) (defBody s__law_are_alike) (defScope s__law_are_alike) [] [] (He.ga K "_law_are_alike") fd) : L2.Binds K fd ["_law_rows", "_law_lines"] [] := F.bindsN fun _ _ _ _ _ _ us hl => match us, hl with | [_, _], _ => rfl
theorem fo__law_are_alike (E : MG w K mg) {fd : FuncData} (F : FunD K "_law_are_alike" "_law_are_alike" (defArgs s__law_are_alike) (defBody s__law_are_alike) (defScope s__law_are_alike) [] [] (He.ga K "_law_are_alike") fd) : FnG P w K mg base CX0 3 (He.ga K "_law_are_alike") fd ["_law_rows", "_law_lines"] (spP (kx K (fnA K)) 2 false F__law_are_alike) := by
  refine fn_P (lv := 2) (n := 2) (NN := 3) (nw := false) (own := []) (fb := m__law_are_alike) (k := kx K (fnA K)) (N := N__law_are_alike) F sc__law_are_alike rfl rfl (by decide) (fun cdv A outer s H E' M H0 W hr => ?_)
  unfold m__law_are_alike
  exact (js_one (js_ret (je_callB (cr_all rfl) cad_all allD_nx (by exact rfl) E.fr_all PyProof.Rows.boot_all (ja_cons (je_of (jf_lc (own := [("_law_spot", 2)]) rfl sc__law_are_alike.nd (okv_P rfl (show ∀ v ∈ ([2] : List Nat), v ∉ ([] : List Nat) by decide)) (ji_seq rfl (jc_call (h__law_spots_0 E) hr (show 2 ≤ 2 by decide) (by exact rfl) E.gf__law_spots (fun _ _ => rfl) rfl (consA_len (consA_len nilA_len)) (ja_cons (je_var (i := 0) (show 0 ∉ ([] : List Nat) by decide) rfl (.inr (.inl (by kernel_rfl)))) (ja_cons (je_var (i := 1) (show 1 ∉ ([] : List Nat) by decide) rfl (.inr (.inl (by kernel_rfl)))) ja_nil)))) (blkOk_by (own := [("_law_spot", 2)]) (N := N__law_are_alike) (sc := defScope s__law_are_alike) (by decide +kernel)) (fun _ _ _ _ _ _ => (jv_name (i := 2) (by decide) (show 2 ∉ ([] : List Nat) by decide) (free_P rfl) sc__law_are_alike.nd rfl (.inl (by kernel_rfl)) (.inr (by kernel_rfl)))) (fun _ _ _ _ _ _ => jts_nil) (fun _ _ _ _ _ _ => (je_cmp (Dn.op_eqX hr.units) opd_eq eqD_nx (by rfl) (jc_call (h__law_room_0 E) hr (show 1 ≤ 2 by decide) (by exact rfl) E.gf__law_room (fun _ _ => rfl) rfl (consA_len (consA_len nilA_len)) (ja_cons (je_var (i := 0) (show 0 ∉ ([] : List Nat) by decide) rfl (.inr (.inl (by kernel_rfl)))) (ja_cons (je_var (i := 2) (show 2 ∉ ([] : List Nat) by decide) rfl (.inl (by kernel_rfl))) ja_nil))) (jc_call (h__law_room_0 E) hr (show 1 ≤ 2 by decide) (by exact rfl) E.gf__law_room (fun _ _ => rfl) rfl (consA_len (consA_len nilA_len)) (ja_cons (je_var (i := 1) (show 1 ∉ ([] : List Nat) by decide) rfl (.inr (.inl (by kernel_rfl)))) (ja_cons (je_var (i := 2) (show 2 ∉ ([] : List Nat) by decide) rfl (.inl (by kernel_rfl))) ja_nil))))))) ja_nil))))
theorem h__law_are_alike_0 (E : MG w K mg) : HeldD P w K mg base 3 (He.ga K "_law_are_alike") (spP (kx K (fnA K)) 2 false F__law_are_alike) [] := by
  obtain ⟨fd, F0⟩ := E.fd__law_are_alike
  exact held_N F0 (fo__law_are_alike E F0) (b__law_are_alike F0)
theorem b__law_whole {fd : FuncData} (F : FunD K "_law_whole" "_law_whole" (defArgs s__law_whole) (defBody s__law_whole) (defScope s__law_whole) [] [] (He.ga K "_law_whole") fd) : L2.Binds K fd ["_law_thing"] [] := F.bindsN fun _ _ _ _ _ _ us hl => match us, hl with | [_], _ => rfl
theorem fo__law_whole (E : MG w K mg) {fd : FuncData} (F : FunD K "_law_whole" "_law_whole" (defArgs s__law_whole) (defBody s__law_whole) (defScope s__law_whole) [] [] (He.ga K "_law_whole") fd) : FnG P w K mg base CX0 1 (He.ga K "_law_whole") fd ["_law_thing"] (spP (kx K (fnA K)) 1 false F__law_whole) := by
  refine fn_P (lv := 0) (n := 1) (NN := 1) (nw := false) (own := []) (fb := m__law_whole) (k := kx K (fnA K)) (N := N__law_whole) F sc__law_whole rfl rfl (by decide) (fun cdv A outer s H E' M H0 W hr => ?_)
  unfold m__law_whole
  exact (js_one (js_ret (je_and (je_isi isiInt rfl (by exact rfl) E.fr_isinstance (by exact rfl) E.fr_int PyProof.Rows.boot_int (je_var (i := 0) (show 0 ∉ ([] : List Nat) by decide) rfl (.inl (by kernel_rfl)))) (je_and (je_not (je_isi isiBool rfl (by exact rfl) E.fr_isinstance (by exact rfl) E.fr_bool PyProof.Rows.boot_bool (je_var (i := 0) (show 0 ∉ ([] : List Nat) by decide) rfl (.inl (by kernel_rfl))))) (je_one (je_cmp op_ge opd_ge geD_nx (by rfl) (je_var (i := 0) (show 0 ∉ ([] : List Nat) by decide) rfl (.inl (by kernel_rfl))) je_int))))))
theorem h__law_whole_0 (E : MG w K mg) : HeldD P w K mg base 1 (He.ga K "_law_whole") (spP (kx K (fnA K)) 1 false F__law_whole) [] := by
  obtain ⟨fd, F0⟩ := E.fd__law_whole
  exact held_N F0 (fo__law_whole E F0) (b__law_whole F0)
theorem b__law_is_row {fd : FuncData} (F : FunD K "_law_is_row" "_law_is_row" (defArgs s__law_is_row) (defBody s__law_is_row) (defScope s__law_is_row) [] [] (He.ga K "_law_is_row") fd) : L2.Binds K fd ["_law_thing"] [] := F.bindsN fun _ _ _ _ _ _ us hl => match us, hl with | [_], _ => rfl
theorem fo__law_is_row (E : MG w K mg) {fd : FuncData} (F : FunD K "_law_is_row" "_law_is_row" (defArgs s__law_is_row) (defBody s__law_is_row) (defScope s__law_is_row) [] [] (He.ga K "_law_is_row") fd) : FnG P w K mg base CX0 2 (He.ga K "_law_is_row") fd ["_law_thing"] (spP (kx K (fnA K)) 1 false F__law_is_row) := by
  refine fn_P (lv := 1) (n := 1) (NN := 2) (nw := false) (own := []) (fb := m__law_is_row) (k := kx K (fnA K)) (N := N__law_is_row) F sc__law_is_row rfl rfl (by decide) (fun cdv A outer s H E' M H0 W hr => ?_)
  unfold m__law_is_row
  exact (js_cons (js_if (PW.pt (jw_or (jt_not (jt_tru rfl (je_isi isiTup rfl (by exact rfl) E.fr_isinstance (by exact rfl) E.fr_tuple PyProof.Rows.boot_tuple (je_var (i := 0) (show 0 ∉ ([] : List Nat) by decide) rfl (.inl (by kernel_rfl)))))) (jw_or (jt_cmp (Dn.op_neX hr.units) opd_ne neD_nx (by rfl) (je_callB call_lenX cad_len lenD_nx (by exact rfl) E.fr_len PySem.boot_len (ja_cons (je_var (i := 0) (show 0 ∉ ([] : List Nat) by decide) rfl (.inl (by kernel_rfl))) ja_nil)) je_int) (jw_or1 (jt_not (jt_tru rfl (je_callB (cr_all rfl) cad_all allD_nx (by exact rfl) E.fr_all PyProof.Rows.boot_all (ja_cons (je_of (jf_lc (own := [("_law_part", 1)]) rfl sc__law_is_row.nd (okv_P rfl (show ∀ v ∈ ([1] : List Nat), v ∉ ([] : List Nat) by decide)) (ji_seq rfl (je_var (i := 0) (show 0 ∉ ([] : List Nat) by decide) rfl (.inl (by kernel_rfl)))) (blkOk_by (own := [("_law_part", 1)]) (N := N__law_is_row) (sc := defScope s__law_is_row) (by decide +kernel)) (fun _ _ _ _ _ _ => (jv_name (i := 1) (by decide) (show 1 ∉ ([] : List Nat) by decide) (free_P rfl) sc__law_is_row.nd rfl (.inl (by kernel_rfl)) (.inr (by kernel_rfl)))) (fun _ _ _ _ _ _ => jts_nil) (fun _ _ _ _ _ _ => (jc_call (h__law_whole_0 E) hr (show 1 ≤ 1 by decide) (by exact rfl) E.gf__law_whole (fun _ _ => rfl) rfl (consA_len nilA_len) (ja_cons (je_var (i := 1) (show 1 ∉ ([] : List Nat) by decide) rfl (.inl (by kernel_rfl))) ja_nil))))) ja_nil)))))))) (js_one (js_ret je_bl)) js_nil)
  (js_one (js_ret (je_and (je_cmp op_le opd_le leD_nx (by rfl) (je_ix rfl (fun _ _ => rfl) (je_var (i := 0) (show 0 ∉ ([] : List Nat) by decide) rfl (.inl (by kernel_rfl))) je_int) je_int) (je_one (je_cmp (Dn.op_eqX hr.units) opd_eq eqD_nx (by rfl) (je_cmp (Dn.op_eqX hr.units) opd_eq eqD_nx (by rfl) (je_ix rfl (fun _ _ => rfl) (je_var (i := 0) (show 0 ∉ ([] : List Nat) by decide) rfl (.inl (by kernel_rfl))) je_int) je_int) (je_cmp (Dn.op_eqX hr.units) opd_eq eqD_nx (by rfl) (je_ix rfl (fun _ _ => rfl) (je_var (i := 0) (show 0 ∉ ([] : List Nat) by decide) rfl (.inl (by kernel_rfl))) je_int) je_int)))))))
theorem h__law_is_row_0 (E : MG w K mg) : HeldD P w K mg base 2 (He.ga K "_law_is_row") (spP (kx K (fnA K)) 1 false F__law_is_row) [] := by
  obtain ⟨fd, F0⟩ := E.fd__law_is_row
  exact held_N F0 (fo__law_is_row E F0) (b__law_is_row F0)
theorem b__law_meets {fd : FuncData} (F : FunD K "_law_meets" "_law_meets" (defArgs s__law_meets) (defBody s__law_meets) (defScope s__law_meets) [] [] (He.ga K "_law_meets") fd) : L2.Binds K fd ["_law_begin", "_law_step", "_law_start", "_law_pace"] [] := F.bindsN fun _ _ _ _ _ _ us hl => match us, hl with | [_, _, _, _], _ => rfl
theorem fo__law_meets (E : MG w K mg) {fd : FuncData} (F : FunD K "_law_meets" "_law_meets" (defArgs s__law_meets) (defBody s__law_meets) (defScope s__law_meets) [] [] (He.ga K "_law_meets") fd) : FnG P w K mg base CX0 2 (He.ga K "_law_meets") fd ["_law_begin", "_law_step", "_law_start", "_law_pace"] (spP (kx K (fnA K)) 4 false F__law_meets) := by
  refine fn_P (lv := 1) (n := 4) (NN := 4) (nw := false) (own := []) (fb := m__law_meets) (k := kx K (fnA K)) (N := N__law_meets) F sc__law_meets rfl rfl (by decide) (fun cdv A outer s H E' M H0 W hr => ?_)
  unfold m__law_meets
  exact (js_cons (js_if (PW.pt (jw_and (jt_cmp (Dn.op_eqX hr.units) opd_eq eqD_nx (by rfl) (je_var (i := 1) (show 1 ∉ ([] : List Nat) by decide) rfl (.inl (by kernel_rfl))) je_int) (jw_and1 (jt_cmp (Dn.op_eqX hr.units) opd_eq eqD_nx (by rfl) (je_var (i := 3) (show 3 ∉ ([] : List Nat) by decide) rfl (.inl (by kernel_rfl))) je_int)))) (js_one (js_ret (je_cmp (Dn.op_eqX hr.units) opd_eq eqD_nx (by rfl) (je_var (i := 0) (show 0 ∉ ([] : List Nat) by decide) rfl (.inl (by kernel_rfl))) (je_var (i := 2) (show 2 ∉ ([] : List Nat) by decide) rfl (.inl (by kernel_rfl)))))) js_nil)
  (js_cons (js_if (jt_cmp (Dn.op_eqX hr.units) opd_eq eqD_nx (by rfl) (je_var (i := 1) (show 1 ∉ ([] : List Nat) by decide) rfl (.inl (by kernel_rfl))) je_int) (js_one (js_ret (je_and (je_cmp op_ge opd_ge geD_nx (by rfl) (je_var (i := 0) (show 0 ∉ ([] : List Nat) by decide) rfl (.inl (by kernel_rfl))) (je_var (i := 2) (show 2 ∉ ([] : List Nat) by decide) rfl (.inl (by kernel_rfl)))) (je_one (je_cmp (Dn.op_eqX hr.units) opd_eq eqD_nx (by rfl) (je_op op_modN opd_mod modD_nx (je_op op_sub opd_sub subD_nx (je_var (i := 0) (show 0 ∉ ([] : List Nat) by decide) rfl (.inl (by kernel_rfl))) (je_var (i := 2) (show 2 ∉ ([] : List Nat) by decide) rfl (.inl (by kernel_rfl)))) (je_var (i := 3) (show 3 ∉ ([] : List Nat) by decide) rfl (.inl (by kernel_rfl)))) je_int))))) js_nil)
  (js_cons (js_if (jt_cmp (Dn.op_eqX hr.units) opd_eq eqD_nx (by rfl) (je_var (i := 3) (show 3 ∉ ([] : List Nat) by decide) rfl (.inl (by kernel_rfl))) je_int) (js_one (js_ret (je_and (je_cmp op_ge opd_ge geD_nx (by rfl) (je_var (i := 2) (show 2 ∉ ([] : List Nat) by decide) rfl (.inl (by kernel_rfl))) (je_var (i := 0) (show 0 ∉ ([] : List Nat) by decide) rfl (.inl (by kernel_rfl)))) (je_one (je_cmp (Dn.op_eqX hr.units) opd_eq eqD_nx (by rfl) (je_op op_modN opd_mod modD_nx (je_op op_sub opd_sub subD_nx (je_var (i := 2) (show 2 ∉ ([] : List Nat) by decide) rfl (.inl (by kernel_rfl))) (je_var (i := 0) (show 0 ∉ ([] : List Nat) by decide) rfl (.inl (by kernel_rfl)))) (je_var (i := 1) (show 1 ∉ ([] : List Nat) by decide) rfl (.inl (by kernel_rfl)))) je_int))))) js_nil)
  (js_one (js_ret (je_cmp (Dn.op_eqX hr.units) opd_eq eqD_nx (by rfl) (je_op op_modN opd_mod modD_nx (je_op op_sub opd_sub subD_nx (je_var (i := 0) (show 0 ∉ ([] : List Nat) by decide) rfl (.inl (by kernel_rfl))) (je_var (i := 2) (show 2 ∉ ([] : List Nat) by decide) rfl (.inl (by kernel_rfl)))) (jc_call (h__law_shared_0 E) hr (show 1 ≤ 1 by decide) (by exact rfl) E.gf__law_shared (fun _ _ => rfl) rfl (consA_len (consA_len nilA_len)) (ja_cons (je_var (i := 1) (show 1 ∉ ([] : List Nat) by decide) rfl (.inl (by kernel_rfl))) (ja_cons (je_var (i := 3) (show 3 ∉ ([] : List Nat) by decide) rfl (.inl (by kernel_rfl))) ja_nil)))) je_int))))))
theorem h__law_meets_0 (E : MG w K mg) : HeldD P w K mg base 2 (He.ga K "_law_meets") (spP (kx K (fnA K)) 4 false F__law_meets) [] := by
  obtain ⟨fd, F0⟩ := E.fd__law_meets
  exact held_N F0 (fo__law_meets E F0) (b__law_meets F0)
theorem b__law_fault {fd : FuncData} (F : FunD K "_law_fault" "_law_fault" (defArgs s__law_fault) (defBody s__law_fault) (defScope s__law_fault) [] [] (He.ga K "_law_fault") fd) : L2.Binds K fd ["_law_thing"] [] := F.bindsN fun _ _ _ _ _ _ us hl => match us, hl with | [_], _ => rfl
theorem fo__law_fault (E : MG w K mg) {fd : FuncData} (F : FunD K "_law_fault" "_law_fault" (defArgs s__law_fault) (defBody s__law_fault) (defScope s__law_fault) [] [] (He.ga K "_law_fault") fd) : FnG P w K mg base CX0 3 (He.ga K "_law_fault") fd ["_law_thing"] (spP (kx K (fnA K)) 1 false F__law_fault) := by
  refine fn_P (lv := 2) (n := 1) (NN := 5) (nw := false) (own := []) (fb := m__law_fault) (k := kx K (fnA K)) (N := N__law_fault) F sc__law_fault rfl rfl (by decide) (fun cdv A outer s H E' M H0 W hr => ?_)
  unfold m__law_fault
  exact (js_cons (js_if (PW.pt (jw_or (jt_not (jt_tru rfl (je_isi isiTup rfl (by exact rfl) E.fr_isinstance (by exact rfl) E.fr_tuple PyProof.Rows.boot_tuple (je_var (i := 0) (show 0 ∉ ([] : List Nat) by decide) rfl (.inl (by kernel_rfl)))))) (jw_or1 (jt_cmp op_gt opd_gt gtD_nx (by rfl) (je_callB call_lenX cad_len lenD_nx (by exact rfl) E.fr_len PySem.boot_len (ja_cons (je_var (i := 0) (show 0 ∉ ([] : List Nat) by decide) rfl (.inl (by kernel_rfl))) ja_nil)) je_int)))) (js_one (js_ret (je_tup (ja_cons je_non ja_nil)))) js_nil)
  (js_cons (js_set (i := 1) (show 1 ∉ ([] : List Nat) by decide) (free_P rfl) sc__law_fault.nd rfl (.inl (by kernel_rfl)) (.inl rfl) je_int)
  (js_cons (js_for (nmG_nx 2) PassesOwn.never rfl (ji_rng1 (by exact rfl) E.fr_range (ja_cons (je_callB call_lenX cad_len lenD_nx (by exact rfl) E.fr_len PySem.boot_len (ja_cons (je_var (i := 0) (show 0 ∉ ([] : List Nat) by decide) rfl (.inl (by kernel_rfl))) ja_nil)) ja_nil)) (jg_name (i := 2) (show 2 ∉ ([] : List Nat) by decide) (free_P rfl) sc__law_fault.nd rfl (.inl (by kernel_rfl)) (.inl rfl))
  (js_cons (js_set (i := 3) (show 3 ∉ ([] : List Nat) by decide) (free_P rfl) sc__law_fault.nd rfl (.inl (by kernel_rfl)) (.inl rfl) (je_ix rfl (fun _ _ => rfl) (je_var (i := 0) (show 0 ∉ ([] : List Nat) by decide) rfl (.inl (by kernel_rfl))) (je_var (i := 2) (show 2 ∉ ([] : List Nat) by decide) rfl (.inl (by kernel_rfl)))))
  (js_cons (js_if (jt_not (jt_tru rfl (jc_call (h__law_is_row_0 E) hr (show 2 ≤ 2 by decide) (by exact rfl) E.gf__law_is_row (fun _ _ => rfl) rfl (consA_len nilA_len) (ja_cons (je_var (i := 3) (show 3 ∉ ([] : List Nat) by decide) rfl (.inl (by kernel_rfl))) ja_nil)))) (js_one (js_ret (je_tup (ja_cons (je_var (i := 2) (show 2 ∉ ([] : List Nat) by decide) rfl (.inl (by kernel_rfl))) ja_nil)))) js_nil)
  (js_cons (js_set (i := 1) (show 1 ∉ ([] : List Nat) by decide) (free_P rfl) sc__law_fault.nd rfl (.inl (by kernel_rfl)) (.inl rfl) (je_op Dn.op_divX opd_fdiv fdivD_nx (je_op Dn.op_mulX opd_mul mulD_nx (je_var (i := 1) (show 1 ∉ ([] : List Nat) by decide) rfl (.inl (by kernel_rfl))) (je_callB (call_maxX rfl) cad_max maxD_nx (by exact rfl) E.fr_max PyProof.Rows.boot_max (ja_cons je_int (ja_cons (je_ix rfl (fun _ _ => rfl) (je_var (i := 3) (show 3 ∉ ([] : List Nat) by decide) rfl (.inl (by kernel_rfl))) je_int) ja_nil)))) (jc_call (h__law_shared_0 E) hr (show 1 ≤ 2 by decide) (by exact rfl) E.gf__law_shared (fun _ _ => rfl) rfl (consA_len (consA_len nilA_len)) (ja_cons (je_var (i := 1) (show 1 ∉ ([] : List Nat) by decide) rfl (.inl (by kernel_rfl))) (ja_cons (je_callB (call_maxX rfl) cad_max maxD_nx (by exact rfl) E.fr_max PyProof.Rows.boot_max (ja_cons je_int (ja_cons (je_ix rfl (fun _ _ => rfl) (je_var (i := 3) (show 3 ∉ ([] : List Nat) by decide) rfl (.inl (by kernel_rfl))) je_int) ja_nil))) ja_nil)))))
  (js_cons (js_if (jt_cmp op_gt opd_gt gtD_nx (by rfl) (je_var (i := 1) (show 1 ∉ ([] : List Nat) by decide) rfl (.inl (by kernel_rfl))) je_int) (js_one (js_ret (je_tup (ja_cons (je_var (i := 2) (show 2 ∉ ([] : List Nat) by decide) rfl (.inl (by kernel_rfl))) ja_nil)))) js_nil)
  (js_one (js_for (nmG_nx 4) PassesOwn.never rfl (ji_seq rfl (je_sli rfl (je_var (i := 0) (show 0 ∉ ([] : List Nat) by decide) rfl (.inl (by kernel_rfl))) jo_none (jo_some (je_var (i := 2) (show 2 ∉ ([] : List Nat) by decide) rfl (.inl (by kernel_rfl)))))) (jg_name (i := 4) (show 4 ∉ ([] : List Nat) by decide) (free_P rfl) sc__law_fault.nd rfl (.inl (by kernel_rfl)) (.inl rfl))
  (js_one (js_if (PW.pt (jw_or (jt_tru rfl (jc_call (h__law_meets_0 E) hr (show 2 ≤ 2 by decide) (by exact rfl) E.gf__law_meets (fun _ _ => rfl) rfl (consA_len (consA_len (consA_len (consA_len nilA_len)))) (ja_cons (je_ix rfl (fun _ _ => rfl) (je_var (i := 3) (show 3 ∉ ([] : List Nat) by decide) rfl (.inl (by kernel_rfl))) je_int) (ja_cons (je_ix rfl (fun _ _ => rfl) (je_var (i := 3) (show 3 ∉ ([] : List Nat) by decide) rfl (.inl (by kernel_rfl))) je_int) (ja_cons (je_ix rfl (fun _ _ => rfl) (je_var (i := 4) (show 4 ∉ ([] : List Nat) by decide) rfl (.inl (by kernel_rfl))) je_int) (ja_cons (je_ix rfl (fun _ _ => rfl) (je_var (i := 4) (show 4 ∉ ([] : List Nat) by decide) rfl (.inl (by kernel_rfl))) je_int) ja_nil)))))) (jw_or1 (jt_tru rfl (jc_call (h__law_meets_0 E) hr (show 2 ≤ 2 by decide) (by exact rfl) E.gf__law_meets (fun _ _ => rfl) rfl (consA_len (consA_len (consA_len (consA_len nilA_len)))) (ja_cons (je_ix rfl (fun _ _ => rfl) (je_var (i := 3) (show 3 ∉ ([] : List Nat) by decide) rfl (.inl (by kernel_rfl))) je_int) (ja_cons (je_ix rfl (fun _ _ => rfl) (je_var (i := 3) (show 3 ∉ ([] : List Nat) by decide) rfl (.inl (by kernel_rfl))) je_int) (ja_cons (je_ix rfl (fun _ _ => rfl) (je_var (i := 4) (show 4 ∉ ([] : List Nat) by decide) rfl (.inl (by kernel_rfl))) je_int) (ja_cons (je_ix rfl (fun _ _ => rfl) (je_var (i := 4) (show 4 ∉ ([] : List Nat) by decide) rfl (.inl (by kernel_rfl))) je_int) ja_nil))))))))) (js_one (js_ret (je_tup (ja_cons (je_var (i := 2) (show 2 ∉ ([] : List Nat) by decide) rfl (.inl (by kernel_rfl))) ja_nil)))) js_nil)))))))))
  (js_one (js_ret (je_tup ja_nil))))))
theorem h__law_fault_0 (E : MG w K mg) : HeldD P w K mg base 3 (He.ga K "_law_fault") (spP (kx K (fnA K)) 1 false F__law_fault) [] := by
  obtain ⟨fd, F0⟩ := E.fd__law_fault
  exact held_N F0 (fo__law_fault E F0) (b__law_fault F0)
theorem b__law_due {fd : FuncData} (F : FunD K "_law_due" "_law_due" (defArgs s__law_due) (defBody s__law_due) (defScope s__law_due) [] [] (He.ga K "_law_due") fd) : L2.Binds K fd ["_law_say_so", "_law_sheet"] [] := F.bindsN fun _ _ _ _ _ _ us hl => match us, hl with | [_, _], _ => rfl
theorem fo__law_due (E : MG w K mg) {fd : FuncData} (F : FunD K "_law_due" "_law_due" (defArgs s__law_due) (defBody s__law_due) (defScope s__law_due) [] [] (He.ga K "_law_due") fd) : FnG P w K mg base CX0 4 (He.ga K "_law_due") fd ["_law_say_so", "_law_sheet"] (spP (kx K (fnA K)) 2 false F__law_due) := by
  refine fn_P (lv := 3) (n := 2) (NN := 2) (nw := false) (own := []) (fb := m__law_due) (k := kx K (fnA K)) (N := N__law_due) F sc__law_due rfl rfl (by decide) (fun cdv A outer s H E' M H0 W hr => ?_)
  unfold m__law_due
  exact (js_cons (js_if (PW.pt (jw_or (jt_cmp op_notN opd_isNN isNN_nx (by rfl) (je_var (i := 1) (show 1 ∉ ([] : List Nat) by decide) rfl (.inl (by kernel_rfl))) je_non) (jw_or (jt_cmp (op_neT0 hr.units) opd_neT0 neT0_nx (by rfl) (jc_call (h__law_fault_0 E) hr (show 3 ≤ 3 by decide) (by exact rfl) E.gf__law_fault (fun _ _ => rfl) rfl (consA_len nilA_len) (ja_cons (je_ix rfl (fun _ _ => rfl) (je_var (i := 0) (show 0 ∉ ([] : List Nat) by decide) rfl (.inl (by kernel_rfl))) je_int) ja_nil)) (je_tup ja_nil)) (jw_or1 (jt_cmp (op_neT0 hr.units) opd_neT0 neT0_nx (by rfl) (jc_call (h__law_fault_0 E) hr (show 3 ≤ 3 by decide) (by exact rfl) E.gf__law_fault (fun _ _ => rfl) rfl (consA_len nilA_len) (ja_cons (je_ix rfl (fun _ _ => rfl) (je_var (i := 0) (show 0 ∉ ([] : List Nat) by decide) rfl (.inl (by kernel_rfl))) je_int) ja_nil)) (je_tup ja_nil)))))) (js_one (js_ret je_bl)) js_nil)
  (js_cons (js_if (jt_cmp (Dn.op_eqX hr.units) opd_eq eqD_nx (by rfl) (je_ix rfl (fun _ _ => rfl) (je_var (i := 0) (show 0 ∉ ([] : List Nat) by decide) rfl (.inl (by kernel_rfl))) je_int) je_str) (js_one (js_ret (jc_call (h__law_are_alike_0 E) hr (show 3 ≤ 3 by decide) (by exact rfl) E.gf__law_are_alike (fun _ _ => rfl) rfl (consA_len (consA_len nilA_len)) (ja_cons (je_ix rfl (fun _ _ => rfl) (je_var (i := 0) (show 0 ∉ ([] : List Nat) by decide) rfl (.inl (by kernel_rfl))) je_int) (ja_cons (je_ix rfl (fun _ _ => rfl) (je_var (i := 0) (show 0 ∉ ([] : List Nat) by decide) rfl (.inl (by kernel_rfl))) je_int) ja_nil))))) js_nil)
  (js_cons (js_if (jt_not (jt_tru rfl (jc_call (h__law_whole_0 E) hr (show 1 ≤ 3 by decide) (by exact rfl) E.gf__law_whole (fun _ _ => rfl) rfl (consA_len nilA_len) (ja_cons (je_ix rfl (fun _ _ => rfl) (je_var (i := 0) (show 0 ∉ ([] : List Nat) by decide) rfl (.inl (by kernel_rfl))) je_int) ja_nil)))) (js_one (js_ret je_bl)) js_nil)
  (js_one (js_ret (je_cmp (Dn.op_neX hr.units) opd_ne neD_nx (by rfl) (jc_call (h__law_room_0 E) hr (show 1 ≤ 3 by decide) (by exact rfl) E.gf__law_room (fun _ _ => rfl) rfl (consA_len (consA_len nilA_len)) (ja_cons (je_ix rfl (fun _ _ => rfl) (je_var (i := 0) (show 0 ∉ ([] : List Nat) by decide) rfl (.inl (by kernel_rfl))) je_int) (ja_cons (je_ix rfl (fun _ _ => rfl) (je_var (i := 0) (show 0 ∉ ([] : List Nat) by decide) rfl (.inl (by kernel_rfl))) je_int) ja_nil))) (jc_call (h__law_room_0 E) hr (show 1 ≤ 3 by decide) (by exact rfl) E.gf__law_room (fun _ _ => rfl) rfl (consA_len (consA_len nilA_len)) (ja_cons (je_ix rfl (fun _ _ => rfl) (je_var (i := 0) (show 0 ∉ ([] : List Nat) by decide) rfl (.inl (by kernel_rfl))) je_int) (ja_cons (je_ix rfl (fun _ _ => rfl) (je_var (i := 0) (show 0 ∉ ([] : List Nat) by decide) rfl (.inl (by kernel_rfl))) je_int) ja_nil)))))))))
theorem h__law_due_0 (E : MG w K mg) : HeldD P w K mg base 4 (He.ga K "_law_due") (spP (kx K (fnA K)) 2 false F__law_due) [] := by
  obtain ⟨fd, F0⟩ := E.fd__law_due
  exact held_N F0 (fo__law_due E F0) (b__law_due F0)
theorem b__law_right {fd : FuncData} (F : FunD K "_law_right" "_law_right" (defArgs s__law_right) (defBody s__law_right) (defScope s__law_right) [] [] (He.ga K "_law_right") fd) : L2.Binds K fd ["_law_purse_here"] [] := F.bindsN fun _ _ _ _ _ _ us hl => match us, hl with | [_], _ => rfl
theorem fo__law_right (E : MG w K mg) {fd : FuncData} (F : FunD K "_law_right" "_law_right" (defArgs s__law_right) (defBody s__law_right) (defScope s__law_right) [] [] (He.ga K "_law_right") fd) : FnG P w K mg base CX0 17 (He.ga K "_law_right") fd ["_law_purse_here"] (spI (kx K (fnA K)) 1 false F__law_right) := by
  refine fn_I (lv := 16) (n := 1) (NN := 6) (nw := false) (own := [0]) (fb := m__law_right) (k := kx K (fnA K)) (N := N__law_right) F sc__law_right rfl rfl (by decide) (by decide) (by decide) (fun cdv A outer s H E' M H0 a hr => ?_)
  unfold m__law_right
  exact (js_cons (js_set (i := 1) (show 1 ∉ ([0] : List Nat) by decide) (free_I (show 0 ∈ ([0] : List Nat) by decide) (show (1 : Nat) ≠ 0 by decide)) sc__law_right.nd rfl (.inl (by kernel_rfl)) (.inl rfl) (jc_callI (i := 0) rfl (h__law_laying_0 E) hr (show 3 ≤ 16 by decide) (by exact rfl) E.gf__law_laying rfl (consA_len nilA_len) (show 0 ∈ ([0] : List Nat) by decide) rfl (.inl (by kernel_rfl)) (ja_cons je_bl ja_nil)))
  (js_cons (js_for (tupG_nx (consG_nx (nmG_nx 2) (consG_nx (nmG_nx 3) nilG_nx))) PassesOwn.never rfl (ji_seq rfl (jc_callI (i := 0) rfl (h__law_claims_0 E) hr (show 4 ≤ 16 by decide) (by exact rfl) E.gf__law_claims rfl (consA_len nilA_len) (show 0 ∈ ([0] : List Nat) by decide) rfl (.inl (by kernel_rfl)) (ja_cons (je_var (i := 1) (show 1 ∉ ([0] : List Nat) by decide) rfl (.inl (by kernel_rfl))) ja_nil))) (jg_tup rfl rfl (jgs_cons (jg_name (i := 2) (show 2 ∉ ([0] : List Nat) by decide) (free_I (show 0 ∈ ([0] : List Nat) by decide) (show (2 : Nat) ≠ 0 by decide)) sc__law_right.nd rfl (.inl (by kernel_rfl)) (.inl rfl)) (jgs_cons (jg_name (i := 3) (show 3 ∉ ([0] : List Nat) by decide) (free_I (show 0 ∈ ([0] : List Nat) by decide) (show (3 : Nat) ≠ 0 by decide)) sc__law_right.nd rfl (.inl (by kernel_rfl)) (.inl rfl)) jgs_nil)))
  (js_cons (js_if (jt_not (jt_tru rfl (jc_call (h__law_taken_0 E) hr (show 8 ≤ 16 by decide) (by exact rfl) E.gf__law_taken (fun _ _ => rfl) rfl (consA_len (consA_len (consA_len nilA_len))) (ja_cons (je_var (i := 2) (show 2 ∉ ([0] : List Nat) by decide) rfl (.inl (by kernel_rfl))) (ja_cons (je_var (i := 3) (show 3 ∉ ([0] : List Nat) by decide) rfl (.inl (by kernel_rfl))) (ja_cons (jc_call (h__law_due_0 E) hr (show 4 ≤ 16 by decide) (by exact rfl) E.gf__law_due (fun _ _ => rfl) rfl (consA_len (consA_len nilA_len)) (ja_cons (je_var (i := 2) (show 2 ∉ ([0] : List Nat) by decide) rfl (.inl (by kernel_rfl))) (ja_cons (je_var (i := 3) (show 3 ∉ ([0] : List Nat) by decide) rfl (.inl (by kernel_rfl))) ja_nil))) ja_nil)))))) (js_one (js_ret je_bl)) js_nil)
  (js_cons (js_asg (jc_callI (i := 0) rfl (h__law_spoilt_0 E) hr (show 16 ≤ 16 by decide) (by exact rfl) E.gf__law_spoilt rfl (consA_len (consA_len nilA_len)) (show 0 ∈ ([0] : List Nat) by decide) rfl (.inl (by kernel_rfl)) (ja_cons (je_var (i := 2) (show 2 ∉ ([0] : List Nat) by decide) rfl (.inl (by kernel_rfl))) (ja_cons (je_var (i := 3) (show 3 ∉ ([0] : List Nat) by decide) rfl (.inl (by kernel_rfl))) ja_nil))) (jg_tup rfl rfl (jgs_cons (jg_name (i := 4) (show 4 ∉ ([0] : List Nat) by decide) (free_I (show 0 ∈ ([0] : List Nat) by decide) (show (4 : Nat) ≠ 0 by decide)) sc__law_right.nd rfl (.inl (by kernel_rfl)) (.inl rfl)) (jgs_cons (jg_name (i := 5) (show 5 ∉ ([0] : List Nat) by decide) (free_I (show 0 ∈ ([0] : List Nat) by decide) (show (5 : Nat) ≠ 0 by decide)) sc__law_right.nd rfl (.inl (by kernel_rfl)) (.inl rfl)) jgs_nil))) (tupG_nx (consG_nx (nmG_nx 4) (consG_nx (nmG_nx 5) nilG_nx))))
  (js_one (js_if (jt_not (jt_tru rfl (jc_call (h__law_taken_0 E) hr (show 8 ≤ 16 by decide) (by exact rfl) E.gf__law_taken (fun _ _ => rfl) rfl (consA_len (consA_len (consA_len nilA_len))) (ja_cons (je_var (i := 4) (show 4 ∉ ([0] : List Nat) by decide) rfl (.inl (by kernel_rfl))) (ja_cons (je_var (i := 5) (show 5 ∉ ([0] : List Nat) by decide) rfl (.inl (by kernel_rfl))) (ja_cons (jc_call (h__law_due_0 E) hr (show 4 ≤ 16 by decide) (by exact rfl) E.gf__law_due (fun _ _ => rfl) rfl (consA_len (consA_len nilA_len)) (ja_cons (je_var (i := 4) (show 4 ∉ ([0] : List Nat) by decide) rfl (.inl (by kernel_rfl))) (ja_cons (je_var (i := 5) (show 5 ∉ ([0] : List Nat) by decide) rfl (.inl (by kernel_rfl))) ja_nil))) ja_nil)))))) (js_one (js_ret je_bl)) js_nil)))))
  (js_one (js_ret je_bl))))
theorem h__law_right_0 (E : MG w K mg) : HeldD P w K mg base 17 (He.ga K "_law_right") (spI (kx K (fnA K)) 1 false F__law_right) [] := by
  obtain ⟨fd, F0⟩ := E.fd__law_right
  exact held_N F0 (fo__law_right E F0) (b__law_right F0)
theorem b__law_purse {fd : FuncData} (F : FunD K "_law_purse" "_law_purse" (defArgs s__law_purse) (defBody s__law_purse) (defScope s__law_purse) [] [] (He.ga K "_law_purse") fd) : L2.Binds K fd ["_law_cell_here"] [] := F.bindsN fun _ _ _ _ _ _ us hl => match us, hl with | [_], _ => rfl
theorem fo__law_purse (E : MG w K mg) {fd : FuncData} (F : FunD K "_law_purse" "_law_purse" (defArgs s__law_purse) (defBody s__law_purse) (defScope s__law_purse) [] [] (He.ga K "_law_purse") fd) : FnG P w K mg base CX0 1 (He.ga K "_law_purse") fd ["_law_cell_here"] (spP (kx K (fnA K)) 1 true F__law_purse) := by
  refine fn_P (lv := 0) (n := 1) (NN := 2) (nw := true) (own := []) (fb := m__law_purse) (k := kx K (fnA K)) (N := N__law_purse) F sc__law_purse rfl rfl (by decide) (fun cdv A outer s H E' M H0 W hr => ?_)
  unfold m__law_purse
  exact (js_cons (js_set (i := 1) (show 1 ∉ ([] : List Nat) by decide) (free_P rfl) sc__law_purse.nd rfl (.inl (by kernel_rfl)) (.inl rfl) je_int)
  (js_cons (js_if (PW.pt (jw_or (jt_cmp op_lt opd_lt ltD_nx (by rfl) (je_var (i := 0) (show 0 ∉ ([] : List Nat) by decide) rfl (.inl (by kernel_rfl))) je_int) (jw_or1 (jt_cmp op_ge opd_ge geD_nx (by rfl) (je_var (i := 0) (show 0 ∉ ([] : List Nat) by decide) rfl (.inl (by kernel_rfl))) (je_op op_pow opd_pow powD_nx je_int je_int))))) (js_one (js_set (i := 1) (show 1 ∉ ([] : List Nat) by decide) (free_P rfl) sc__law_purse.nd rfl (.inl (by kernel_rfl)) (.inl rfl) (je_callB call_abs cad_abs absD_nx (by exact rfl) E.fr_abs PyProof.Rows.boot_abs (ja_cons (je_var (i := 0) (show 0 ∉ ([] : List Nat) by decide) rfl (.inl (by kernel_rfl))) ja_nil)))) js_nil)
  (js_one (js_retF (jf_lst (ja_cons (je_op op_modN opd_mod modD_nx (je_var (i := 0) (show 0 ∉ ([] : List Nat) by decide) rfl (.inl (by kernel_rfl))) je_int) (ja_cons (je_var (i := 1) (show 1 ∉ ([] : List Nat) by decide) rfl (.inl (by kernel_rfl))) (ja_cons je_int ja_nil))))))))
theorem h__law_purse_0 (E : MG w K mg) : HeldD P w K mg base 1 (He.ga K "_law_purse") (spP (kx K (fnA K)) 1 true F__law_purse) [] := by
  obtain ⟨fd, F0⟩ := E.fd__law_purse
  exact held_N F0 (fo__law_purse E F0) (b__law_purse F0)
theorem b__law_cell {fd : FuncData} (F : FunD K "_law_cell" "_law_cell" (defArgs s__law_cell) (defBody s__law_cell) (defScope s__law_cell) [] [] (He.ga K "_law_cell") fd) : L2.Binds K fd ["_law_script", "_law_k"] [] := F.bindsN fun _ _ _ _ _ _ us hl => match us, hl with | [_, _], _ => rfl
theorem fo__law_cell (E : MG w K mg) {fd : FuncData} (F : FunD K "_law_cell" "_law_cell" (defArgs s__law_cell) (defBody s__law_cell) (defScope s__law_cell) [] [] (He.ga K "_law_cell") fd) : FnG P w K mg base CX0 1 (He.ga K "_law_cell") fd ["_law_script", "_law_k"] (spP (kx K (fnA K)) 2 false F__law_cell) := by
  refine fn_P (lv := 0) (n := 2) (NN := 4) (nw := false) (own := []) (fb := m__law_cell) (k := kx K (fnA K)) (N := N__law_cell) F sc__law_cell rfl rfl (by decide) (fun cdv A outer s H E' M H0 W hr => ?_)
  unfold m__law_cell
  exact (js_cons (js_if (jt_cmp op_lt opd_lt ltD_nx (by rfl) (je_var (i := 1) (show 1 ∉ ([] : List Nat) by decide) rfl (.inl (by kernel_rfl))) (je_callB call_lenX cad_len lenD_nx (by exact rfl) E.fr_len PySem.boot_len (ja_cons (je_var (i := 0) (show 0 ∉ ([] : List Nat) by decide) rfl (.inl (by kernel_rfl))) ja_nil))) (js_one (js_ret (je_ix rfl (fun _ _ => rfl) (je_var (i := 0) (show 0 ∉ ([] : List Nat) by decide) rfl (.inl (by kernel_rfl))) (je_var (i := 1) (show 1 ∉ ([] : List Nat) by decide) rfl (.inl (by kernel_rfl)))))) js_nil)
  (js_cons (js_set (i := 2) (show 2 ∉ ([] : List Nat) by decide) (free_P rfl) sc__law_cell.nd rfl (.inl (by kernel_rfl)) (.inl rfl) (je_op op_modN opd_mod modD_nx (je_op Dn.op_mulX opd_mul mulD_nx je_int (je_op Dn.op_addX opd_add addD_nx (je_op Dn.op_addX opd_add addD_nx (je_op Dn.op_mulX opd_mul mulD_nx (je_var (i := 1) (show 1 ∉ ([] : List Nat) by decide) rfl (.inl (by kernel_rfl))) (je_var (i := 1) (show 1 ∉ ([] : List Nat) by decide) rfl (.inl (by kernel_rfl)))) (je_op Dn.op_mulX opd_mul mulD_nx je_int (je_var (i := 1) (show 1 ∉ ([] : List Nat) by decide) rfl (.inl (by kernel_rfl))))) je_int)) je_int))
  (js_cons (js_for (nmG_nx 3) PassesOwn.never rfl (ji_seq rfl (je_sli rfl (je_var (i := 0) (show 0 ∉ ([] : List Nat) by decide) rfl (.inl (by kernel_rfl))) jo_none (jo_some je_int))) (jg_name (i := 3) (show 3 ∉ ([] : List Nat) by decide) (free_P rfl) sc__law_cell.nd rfl (.inl (by kernel_rfl)) (.inl rfl))
  (js_one (js_set (i := 2) (show 2 ∉ ([] : List Nat) by decide) (free_P rfl) sc__law_cell.nd rfl (.inl (by kernel_rfl)) (.inl rfl) (je_op op_modN opd_mod modD_nx (je_op Dn.op_addX opd_add addD_nx (je_op Dn.op_mulX opd_mul mulD_nx (je_var (i := 2) (show 2 ∉ ([] : List Nat) by decide) rfl (.inl (by kernel_rfl))) je_int) (je_var (i := 3) (show 3 ∉ ([] : List Nat) by decide) rfl (.inl (by kernel_rfl)))) je_int))))
  (js_one (js_ret (je_var (i := 2) (show 2 ∉ ([] : List Nat) by decide) rfl (.inl (by kernel_rfl))))))))
theorem h__law_cell_0 (E : MG w K mg) : HeldD P w K mg base 1 (He.ga K "_law_cell") (spP (kx K (fnA K)) 2 false F__law_cell) [] := by
  obtain ⟨fd, F0⟩ := E.fd__law_cell
  exact held_N F0 (fo__law_cell E F0) (b__law_cell F0)
theorem b_law {fd : FuncData} (F : FunD K "law" "law" (defArgs s_law) (defBody s_law) (defScope s_law) [] [] (He.ga K "law") fd) : L2.Binds K fd ["_law_script"] [] := F.bindsN fun _ _ _ _ _ _ us hl => match us, hl with | [_], _ => rfl
theorem fo_law (E : MG w K mg) {fd : FuncData} (F : FunD K "law" "law" (defArgs s_law) (defBody s_law) (defScope s_law) [] [] (He.ga K "law") fd) : FnG P w K mg base CX0 18 (He.ga K "law") fd ["_law_script"] (spP (kx K (fnA K)) 1 false F_law) := by
  refine fn_P (lv := 17) (n := 1) (NN := 3) (nw := false) (own := []) (fb := m_law) (k := kx K (fnA K)) (N := N_law) F sc_law rfl rfl (by decide) (fun cdv A outer s H E' M H0 W hr => ?_)
  unfold m_law
  exact (js_cons (js_set (i := 1) (show 1 ∉ ([] : List Nat) by decide) (free_P rfl) sc_law.nd rfl (.inl (by kernel_rfl)) (.inl rfl) (je_tup (ja_cons (je_tup (ja_cons (je_op op_pow opd_pow powD_nx je_int je_int) (ja_cons je_int (ja_cons (je_op op_pow opd_pow powD_nx je_int je_int) (ja_cons je_int ja_nil))))) (ja_cons (je_tup (ja_cons (je_op op_sub opd_sub subD_nx (je_op op_pow opd_pow powD_nx je_int je_int) je_int) (ja_cons je_int (ja_cons (je_op op_sub opd_sub subD_nx (je_op op_pow opd_pow powD_nx je_int je_int) je_int) (ja_cons je_int ja_nil))))) ja_nil))))
  (js_cons (js_if (jt_not (jt_tru rfl (jc_call (h__law_taken_0 E) hr (show 8 ≤ 17 by decide) (by exact rfl) E.gf__law_taken (fun _ _ => rfl) rfl (consA_len (consA_len (consA_len nilA_len))) (ja_cons (je_tup (ja_cons je_str (ja_cons (je_var (i := 1) (show 1 ∉ ([] : List Nat) by decide) rfl (.inl (by kernel_rfl))) (ja_cons (je_tup (ja_cons (je_tup (ja_cons (je_op op_sub opd_sub subD_nx (je_op op_pow opd_pow powD_nx je_int je_int) je_int) (ja_cons je_int (ja_cons (je_op op_sub opd_sub subD_nx (je_op op_pow opd_pow powD_nx je_int je_int) je_int) (ja_cons je_int ja_nil))))) ja_nil)) ja_nil)))) (ja_cons je_non (ja_cons je_bl ja_nil)))))) (js_one (js_ret je_bl)) js_nil)
  (js_one (js_ret (je_callB (cr_all rfl) cad_all allD_nx (by exact rfl) E.fr_all PyProof.Rows.boot_all (ja_cons (je_of (jf_lc (own := [("_law_k", 2)]) rfl sc_law.nd (okv_P rfl (show ∀ v ∈ ([2] : List Nat), v ∉ ([] : List Nat) by decide)) (ji_rng1 (by exact rfl) E.fr_range (ja_cons (je_callB (call_maxX rfl) cad_max maxD_nx (by exact rfl) E.fr_max PyProof.Rows.boot_max (ja_cons je_int (ja_cons (je_callB (call_minX rfl) cad_min minD_nx (by exact rfl) E.fr_min PyProof.Rows.boot_min (ja_cons (je_callB call_lenX cad_len lenD_nx (by exact rfl) E.fr_len PySem.boot_len (ja_cons (je_var (i := 0) (show 0 ∉ ([] : List Nat) by decide) rfl (.inr (.inl (by kernel_rfl)))) ja_nil)) (ja_cons je_int ja_nil))) ja_nil))) ja_nil)) (blkOk_by (own := [("_law_k", 2)]) (N := N_law) (sc := defScope s_law) (by decide +kernel)) (fun _ _ _ _ _ _ => (jv_name (i := 2) (by decide) (show 2 ∉ ([] : List Nat) by decide) (free_P rfl) sc_law.nd rfl (.inl (by kernel_rfl)) (.inr (by kernel_rfl)))) (fun _ _ _ _ _ _ => jts_nil) (fun _ _ _ _ _ _ => (jc_callN1 rfl (h__law_right_0 E) hr (show 17 ≤ 17 by decide) (by exact rfl) E.gf__law_right rfl nilA_len (jc_callF (h__law_purse_0 E) hr (show 1 ≤ 17 by decide) (by exact rfl) E.gf__law_purse (fun _ _ => rfl) rfl (consA_len nilA_len) (ja_cons (jc_call (h__law_cell_0 E) hr (show 1 ≤ 17 by decide) (by exact rfl) E.gf__law_cell (fun _ _ => rfl) rfl (consA_len (consA_len nilA_len)) (ja_cons (je_var (i := 0) (show 0 ∉ ([] : List Nat) by decide) rfl (.inr (.inl (by kernel_rfl)))) (ja_cons (je_var (i := 2) (show 2 ∉ ([] : List Nat) by decide) rfl (.inl (by kernel_rfl))) ja_nil))) ja_nil)) (fun _ => ja_nil) )))) ja_nil))))))
end Gk71

-- VC
local macro_rules | `(tactic| walk_at "get") => `(tactic| ((with_reducible first | apply Dn.get_c | apply Dn.get_l | apply Dn.w_vr | apply Dn.o_idxc | apply Dn.o_isi); (focus (exact rfl))))
local macro_rules | `(tactic| walk_at "sz") => `(tactic| ((with_reducible refine ⟨?sz, ?_⟩); (focus (exact Nat.le_of_ble_eq_true rfl))))
local macro_rules | `(tactic| walk_at "ar") => `(tactic| first
  | ((with_reducible refine Dn.o_modE ?ar ?_); (focus omega)) | ((with_reducible refine Dn.o_mulS ?ar ?ar2 ?_); (focus omega); (focus omega)) | ((with_reducible refine Dn.o_divE ?ar ?ar2 ?_); (focus omega); (focus omega)) | ((with_reducible refine Dn.o_powP ?ar ?ar2 ?ar3 ?_); (focus omega); (focus omega); (focus omega)) | (with_reducible refine Dn.nat_c ?_) | (with_reducible refine Dn.nat_l ?_))
local macro_rules | `(tactic| walk_at "v1") => `(tactic| with_reducible first
  | refine Dn.w_bin2 ?_ | refine Dn.w_cst ?_ | refine Dn.w_consA ?_ | refine Dn.w_nilA ?_ | refine Dn.w_calI ?_ | refine Dn.w_calM ?_ | refine Dn.w_callD ?_
  | refine Dn.w_setS ?_ | refine Dn.w_if ?_ | refine Dn.w_tst ?_ | refine Dn.w_tru ?_ | refine Dn.w_ret ?_ | refine Dn.w_nx ?_
  | refine Dn.bl_c ?_ | refine Dn.if_t ?_ | refine Dn.if_f ?_ | refine Dn.if_n ?_ | refine Dn.o_tru ?_
  | refine Dn.o_add ?_ | refine Dn.o_sub ?_ | refine Dn.o_eq' ?_ | refine Dn.o_ne' ?_ | refine Dn.o_gt ?_ | refine Dn.o_lt ?_ | refine Dn.o_ge ?_ | refine Dn.o_le ?_
  | refine Dn.w_asg ?_ | refine Dn.w_tupE ?_ | refine Dn.w_lstE ?_ | refine Dn.w_oix ?_ | refine Dn.g_nm ?_ | refine Dn.g_cons ?_ | refine Dn.g_nil ?_ | refine Dn.g_isL ?_ | refine Dn.g_sub ?_
  | refine Dn.w_andT ?_ | refine Dn.w_orT ?_ | refine Dn.w_notT ?_ | refine Dn.w_andV ?_ | refine Dn.w_orV ?_ | refine Dn.w_notV ?_ | refine Dn.w_un1 ?_ | refine Dn.w_ifV ?_ | refine Dn.w_chn ?_
  | refine Dn.w_asL ?_ | refine Dn.w_seqM ?_ | refine Dn.sq_l ?_ | refine Dn.sq_t ?_ | refine Dn.w_setO ?_ | refine Dn.w_szA ?_ | refine Dn.w_exp ?_ | refine Dn.w_parS ?_ | refine Dn.w_parS1 ?_ | refine Dn.w_parS2 ?_
  | refine Dn.w_isL ?_ | refine Dn.w_appS ?_ | refine Dn.w_popK ?_ | refine Dn.w_insK ?_ | refine Dn.w_rngF1 ?_ | refine Dn.w_rng1M ?_ | refine Dn.w_callO ?_ | refine Dn.w_sliO ?_ | refine Dn.w_sliE ?_ | refine Dn.w_noP ?_ | refine Dn.w_soP ?_
  | refine Dn.w_addF ?_ | refine Dn.w_bin2L ?_ | refine Dn.w_bin2R ?_ | refine Dn.w_retL ?_ | refine Dn.w_retF ?_ | refine Dn.w_caIF ?_ | refine Dn.w_calF ?_ | refine Dn.w_calK ?_ | refine Dn.w_caN ?_ | refine Dn.w_frz ?_
  | refine Dn.one_c ?_ | refine Dn.lst_c ?_ | refine Dn.int_c ?_ | refine Dn.o_lenL ?_ | refine Dn.o_lenT ?_ | refine Dn.o_intB ?_ | refine Dn.o_tupleL ?_ | refine Dn.o_sliL ?_ | refine Dn.o_sliT ?_
  | refine Dn.q_rt ?_ | refine Dn.r_rt ?_ | refine Dn.t_rt ?_ | refine Dn.x_rt ?_
  | refine Dn.g_tup rfl ?_)
local macro_rules | `(tactic| walk_at "ds") => `(tactic| dsimp only [List.set_cons_zero, List.set_cons_succ])
local macro_rules | `(tactic| walk_at "nx") => `(tactic| (with_reducible refine Dn.q_nx ?_; try dsimp only [List.set_cons_zero, List.set_cons_succ]))
local macro_rules | `(tactic| walk_at "st") => `(tactic| ((try (with_reducible refine Dn.w_seq ?_)); repeat (first | walk_at "v1" | walk_at "get" | walk_at "sz" | walk_at "ar")))
local macro_rules | `(tactic| walk_at "vc") => `(tactic| repeat (first | walk_at "v1" | walk_at "get" | walk_at "nx" | walk_at "sz" | walk_at "ar" | (with_reducible refine Dn.w_seq ?_)))
namespace Dn
open PySem PySem.Spec PyProof.Rows L2
/-! ### data that may be compared -/
def PyOk (k : Nat) (d : D) : Prop := ∃ p : PyData, D.py d = some p ∧ p.canLay0 = true ∧ p.depth ≤ k
theorem pys_ok {k : Nat} : ∀ {ds : List D}, (∀ d ∈ ds, PyOk k d) → ∃ xs, pys ds = some xs ∧ PyData.canLayAll0 xs = true ∧ PyData.depthAll xs ≤ k ∧ xs.length = ds.length
  | [], _ => ⟨[], rfl, rfl, Nat.zero_le _, rfl⟩
  | d :: ds, h => by
    obtain ⟨p, h1, h2, h3⟩ := h d (List.mem_cons_self ..)
    obtain ⟨xs, h4, h5, h6, h7⟩ := pys_ok fun d' hd => h d' (List.mem_cons_of_mem _ hd)
    refine ⟨p :: xs, ?_, ?_, ?_, by simp [h7]⟩
    · unfold pys
      rw [h1, h4]
    · unfold PyData.canLayAll0
      rw [h2, h5]
      rfl
    · unfold PyData.depthAll
      omega
theorem PyOk.int {k : Nat} {i : Int} : PyOk k (.int i) := ⟨.int i, rfl, rfl, Nat.zero_le _⟩
theorem PyOk.tup {k : Nat} {ds : List D} (h : ∀ d ∈ ds, PyOk k d) : PyOk (k + 1) (.tup ds) := by
  obtain ⟨xs, h1, h2, h3, _⟩ := pys_ok h
  refine ⟨.tuple xs, ?_, ?_, ?_⟩
  · unfold D.py
    rw [h1]
  · unfold PyData.canLay0
    exact h2
  · unfold PyData.depth
    omega
theorem PyOk.lst {k : Nat} {ds : List D} (h : ∀ d ∈ ds, PyOk k d) : PyOk (k + 1) (.lst ds) := by
  obtain ⟨xs, h1, h2, h3, _⟩ := pys_ok h
  refine ⟨.list xs, ?_, ?_, ?_⟩
  · unfold D.py
    rw [h1]
  · unfold PyData.canLay0
    exact h2
  · unfold PyData.depth
    omega
theorem PyOk.shaped {k : Nat} {d : D} (h : PyOk k d) (hk : k ≤ 64) : ∃ p, D.py d = some p ∧ SeqAt.shaped p = true := by
  obtain ⟨p, h1, h2, h3⟩ := h
  exact ⟨p, h1, by unfold SeqAt.shaped; rw [h2, decide_eq_true (by omega)]; rfl⟩
/-- xs != [] -/
theorem o_neL0 {k : Nat} {ds : List D} {Q : D → Prop} (h : ∀ d ∈ ds, PyOk k d) (hk : k < 64) (q : Q (.bl (!ds.isEmpty))) : Ok (neD (.lst ds) (.lst [])) Q := by
  obtain ⟨xs, h1, h2, h3, h4⟩ := pys_ok h
  obtain ⟨p, h5, h6⟩ := (PyOk.lst h).shaped hk
  have e1 : D.py (.lst ds) = some (.list xs) := by unfold D.py; rw [h1]
  rw [h5] at e1
  cases e1
  refine ⟨_, ?_, q⟩
  unfold neD
  have : scalD (.lst ds) (.lst []) = none := rfl
  rw [this]
  simp only []
  rw [h5]
  have e2 : D.py (.lst []) = some (.list []) := rfl
  rw [e2]
  simp only []
  have e3 : SeqAt.shaped (.list []) = true := rfl
  rw [h6, e3]
  have e4 : PyData.eqv (.list xs) (.list []) = ds.isEmpty := by
    cases ds with
    | nil =>
      have : xs = [] := List.length_eq_zero_iff.mp h4
      subst this
      rfl
    | cons d ds =>
      cases xs with
      | nil => cases h4
      | cons x xs => rfl
  rw [e4]
  rfl
/-! ### texts of plain signs -/
def Asc (z : Str) : Prop := ∀ c ∈ z.cps.toList, c < 128
theorem Asc.ok {z : Str} (h : Asc z) : PyData.strOk z = true := by
  unfold PyData.strOk
  rw [Array.all_eq_true_iff_forall_mem]
  intro c hc
  exact decide_eq_true (Nat.lt_trans (h c (Array.mem_toList_iff.mpr hc)) (by decide))
theorem PyOk.str {k : Nat} {z : Str} (h : Asc z) : PyOk k (.str z) := ⟨.str z, rfl, h.ok, Nat.zero_le _⟩
theorem Asc.app {a b : Str} (h1 : Asc a) (h2 : Asc b) : Asc (a ++ b) := fun c hc => by
  have : (a ++ b).cps.toList = a.cps.toList ++ b.cps.toList := by
    show (a.cps ++ b.cps).toList = _
    rw [Array.toList_append]
  rw [this] at hc
  rcases List.mem_append.mp hc with hc | hc
  · exact h1 c hc
  · exact h2 c hc
theorem Asc.rev {a : Str} (h1 : Asc a) : Asc (revS a) := fun c hc => by
  unfold revS at hc
  rw [List.toList_toArray] at hc
  exact h1 c (List.mem_reverse.mp hc)
theorem len_app (a b : Str) : (a ++ b).length = a.length + b.length := by
  show (a.cps ++ b.cps).size = _
  rw [Array.size_append]
  rfl
theorem len_rev (a : Str) : (revS a).length = a.length := by
  show (a.cps.toList.reverse.toArray).size = a.cps.size
  rw [List.size_toArray, List.length_reverse, Array.length_toList]
theorem pys_strs : ∀ ws : List Str, pys (ws.map D.str) = some (ws.map PyData.str)
  | [] => rfl
  | w :: ws => by
    rw [List.map_cons, List.map_cons]
    unfold pys
    rw [pys_strs ws]
    rfl
theorem any_strs (z : Str) : ∀ ws : List Str, ((ws.map PyData.str).any fun q => PyData.eqv q (.str z)) = decide (z ∈ ws)
  | [] => rfl
  | w :: ws => by
    rw [List.map_cons, List.any_cons, any_strs z ws]
    show ((w == z) || decide (z ∈ ws)) = _
    by_cases h : z = w
    · subst h
      simp
    · have h2 : (w == z) = false := by
        rw [beq_eq_false_iff_ne]
        exact fun e => h e.symm
      rw [h2]
      simp [h]
theorem mem_strs {z : Str} {ws : List Str} (hz : Asc z) (hw : ∀ w ∈ ws, Asc w) : memD false (.str z) (.lst (ws.map D.str)) = .ok (.bl (decide (z ∈ ws))) := by
  obtain ⟨p, h1, h2⟩ := (PyOk.lst (k := 0) (ds := ws.map D.str) fun d hd => by
    obtain ⟨w, hw1, rfl⟩ := List.mem_map.mp hd
    exact PyOk.str (hw w hw1)).shaped (by decide)
  have e1 : D.py (.lst (ws.map D.str)) = some (.list (ws.map PyData.str)) := by
    unfold D.py
    rw [pys_strs]
  rw [h1] at e1
  cases e1
  obtain ⟨q, h3, h4⟩ := (PyOk.str (k := 0) hz).shaped (by decide)
  cases h3
  unfold memD
  have e2 : D.py (.str z) = some (.str z) := rfl
  rw [e2]
  simp only [pys_strs, h2, h4, any_strs, Bool.and_self, if_true, Bool.false_xor]
theorem upper_len : ∀ (l : List Nat), (∀ c ∈ l, c < 128) → (Txt.upper ⟨l.toArray⟩).length = l.length ∧ Asc (Txt.upper ⟨l.toArray⟩)
  | [], _ => ⟨rfl, fun c hc => by cases hc⟩
  | c :: l, h => by
    have e : (⟨(c :: l).toArray⟩ : Str) = (⟨#[c]⟩ : Str) ++ ⟨l.toArray⟩ := by
      show _ = (⟨#[c] ++ l.toArray⟩ : Str)
      congr 1
      rw [show #[c] = [c].toArray from rfl, List.append_toArray]
      rfl
    obtain ⟨h1, h2⟩ := upper_len l fun d hd => h d (List.mem_cons_of_mem _ hd)
    have hc := h c (List.mem_cons_self ..)
    rw [e, PySem.W.KOpn.upper_app, PySem.W.KOpn.upper_one hc, len_app, h1]
    refine ⟨?_, Asc.app (fun d hd => ?_) h2⟩
    · show 1 + l.length = l.length + 1
      omega
    · have : d = if 97 ≤ c ∧ c ≤ 122 then c - 32 else c := by simpa using hd
      rw [this]
      split <;> omega
theorem Asc.upper {z : Str} (h : Asc z) : Asc (Txt.upper z) := (upper_len z.cps.toList h).2
theorem len_upper {z : Str} (h : Asc z) : (Txt.upper z).length = z.length := (upper_len z.cps.toList h).1
end Dn

namespace Dn
open PySem PySem.Spec PyProof.Rows L2

theorem le_size {n : Nat} (h : n ≤ 1000) : n ≤ sizeLine := Nat.le_trans h (by decide)
theorem whS_one {t : MD Bool} {fb : MS} {n : Nat} {e e1 e2 : Lc} (h1 : t e = .ok (true, e1)) (h2 : fb e1 = .ok (.nx, e2)) : whS t fb (n + 1) e = whS t fb n e2 := by
  conv => lhs; unfold whS
  rw [h1]
  simp only [R.bind_ok]
  rw [h2]
  rfl
theorem whS_end {t : MD Bool} {fb : MS} {n : Nat} {e e1 : Lc} (h1 : t e = .ok (false, e1)) : whS t fb (n + 1) e = .ok (.nx, e1) := by
  conv => lhs; unfold whS
  rw [h1]
  rfl
theorem fmod_nat (a b : Nat) : (a : Int).fmod (b : Int) = ((a % b : Nat) : Int) := by
  rw [Int.fmod_eq_emod_of_nonneg _ (by omega)]
  rfl
theorem gcd_step (a b : Nat) : Nat.gcd b (a % b) = Nat.gcd a b := by rw [Nat.gcd_comm a b, Nat.gcd_rec b a, Nat.gcd_comm]
theorem whS_div (t : MD Bool) (ht : ∀ a b : Nat, t [some (.int a), some (.int b)] = .ok (decide (b ≠ 0), [some (.int a), some (.int b)])) (fb : MS)
    (hb : ∀ a b : Nat, b ≠ 0 → fb [some (.int a), some (.int b)] = .ok (.nx, [some (.int b), some (.int ((a : Int).fmod b))])) : ∀ (m n a b : Nat), b < 2 ^ m → 2 * m + 1 ≤ n → whS t fb n [some (.int a), some (.int b)] = .ok (.nx, [some (.int (Nat.gcd a b)), some (.int 0)])
  | 0, n, a, b, h, hn => by
    obtain ⟨n, rfl⟩ : ∃ k, n = k + 1 := ⟨n - 1, by omega⟩
    have : b = 0 := by simpa using h
    subst this
    rw [whS_end (by rw [ht]; rfl)]
    simp
  | m + 1, n, a, b, h, hn => by
    obtain ⟨n, rfl⟩ : ∃ k, n = k + 2 := ⟨n - 2, by omega⟩
    by_cases hb0 : b = 0
    · subst hb0
      rw [whS_end (by rw [ht]; rfl)]
      simp
    · rw [whS_one (n := n + 1) (by rw [ht, decide_eq_true hb0]) (hb _ _ hb0), fmod_nat]
      by_cases hr : a % b = 0
      · rw [hr, whS_end (by rw [ht]; rfl), ← gcd_step a b, hr]
        simp
      · rw [whS_one (n := n) (by rw [ht, decide_eq_true hr]) (hb _ _ hr), fmod_nat]
        have h1 := Nat.mod_lt a (Nat.pos_of_ne_zero hb0)
        have h2 := Nat.mod_lt b (Nat.pos_of_ne_zero hr)
        have h3 : b % (a % b) < 2 ^ m := by
          have h4 : b % (a % b) + (a % b) ≤ b := by
            have := Nat.div_add_mod b (a % b)
            have h5 : 1 ≤ b / (a % b) := Nat.div_pos (Nat.le_of_lt h1) (Nat.pos_of_ne_zero hr)
            have h6 : a % b ≤ (a % b) * (b / (a % b)) := Nat.le_mul_of_pos_right _ h5
            omega
          rw [Nat.pow_succ] at h
          omega
        rw [whS_div t ht fb hb m n (a % b) (b % (a % b)) h3 (by omega), gcd_step b (a % b), gcd_step a b]
theorem forS_cons {g : GD} {b : MS} {d : D} {ds : List D} {e e1 e2 : Lc} (h1 : g d e = .ok e1) (h2 : b e1 = .ok (.nx, e2)) : forS g b (d :: ds) e = forS g b ds e2 := by
  conv => lhs; unfold forS
  rw [h1]
  simp only [R.bind_ok]
  rw [h2]
  rfl
theorem log2_le {n k : Nat} (h : n < 2 ^ (k + 1)) : n.log2 ≤ k := by
  by_cases h0 : n = 0
  · subst h0
    simp
  · have := (Nat.log2_lt h0).mpr h
    omega
theorem eq0 (b : Nat) : (((b : Nat) : Int) == 0) = decide (b = 0) := by
  by_cases h : b = 0 <;> simp [h]
def clean1 : D → Bool
  | .fn _ => false
  | .int i => decide (i.natAbs.log2 < 300000)
  | _ => true
def whole : D → Bool
  | .int i => decide (0 ≤ i)
  | _ => false
/-- not a def, its parts neither -/
def clean2 : D → Bool
  | .fn _ => false
  | .tup ds => ds.all clean1 && decide (ds.length ≤ 1000)
  | _ => true
theorem whole_int {d : D} (h : whole d = true) : ∃ n : Nat, d = .int n := by
  cases d with
  | int i => exact ⟨i.toNat, by
      have := of_decide_eq_true h
      rw [Int.toNat_of_nonneg this]⟩
  | _ => cases h
def clean3 : D → Bool
  | .fn _ => false
  | .int i => decide (i.natAbs.log2 < 300000)
  | .tup ds => ds.all clean2 && decide (ds.length ≤ 1000)
  | _ => true
theorem rngL_mem {n i : Nat} {d : D} (h : (rngL 0 n)[i]? = some d) : d = .int i ∧ i < n := by
  rw [rngL_get] at h
  by_cases hi : i < n
  · rw [if_pos hi] at h
    cases h
    exact ⟨by rw [Int.zero_add], hi⟩
  · rw [if_neg hi] at h
    cases h
theorem getSome {α : Type} {ds : List α} {k : Nat} (h : k < ds.length) : ∃ d, ds[k]? = some d ∧ d ∈ ds := ⟨ds[k], List.getElem?_eq_getElem h, List.getElem_mem h⟩
theorem mul_le {x y : Int} {X Y : Int} (h0 : 0 ≤ x) (h1 : x ≤ X) (h2 : 0 ≤ y) (h3 : y ≤ Y) : 0 ≤ x * y ∧ x * y ≤ X * Y := ⟨Int.mul_nonneg h0 h2, Int.mul_le_mul h1 h3 h2 (by omega)⟩
theorem lt_size {n : Nat} (h : n ≤ 1000) : n < sizeLine := Nat.lt_of_le_of_lt h (by decide)
theorem app_ok {P : D → Prop} {ds : List D} {d : D} (h : ∀ x ∈ ds, P x) (hd : P d) : ∀ x ∈ ds ++ [d], P x := fun x hx => by
  rcases List.mem_append.mp hx with hx | hx
  · exact h x hx
  · rw [List.mem_singleton.mp hx]
    exact hd
theorem idx2 {a b : D} {c : Bool} {Q : D → Prop} (h1 : c = true → Q b) (h2 : c = false → Q a) : Ok (idxD (.lst [a, b]) (.int (if c = true then 1 else 0))) Q := by
  cases c
  · exact ⟨_, rfl, h2 rfl⟩
  · exact ⟨_, rfl, h1 rfl⟩
def smallB (n : Nat) : Nat → D → Bool
  | _, .non => true
  | _, .bl _ => true
  | _, .int i => decide (i.natAbs ≤ 1000000000000000000000000000000000000000000000 + 2 * n)
  | _, .str z => z.cps.toList.all (fun c => decide (c < 128)) && decide (z.length ≤ 100 + n)
  | k + 1, .tup ds => decide (ds.length ≤ 100 + n) && ds.all (smallB n k)
  | k + 1, .lst ds => decide (ds.length ≤ 100 + n) && ds.all (smallB n k)
  | _, .dct ks _ => ks.isEmpty
  | _, _ => false
theorem small_int {n k : Nat} {i : Int} : smallB n k (.int i) = true ↔ i.natAbs ≤ 1000000000000000000000000000000000000000000000 + 2 * n := by
  cases k <;> exact decide_eq_true_iff
theorem small_str {n k : Nat} {z : Str} : smallB n k (.str z) = true ↔ Asc z ∧ z.length ≤ 100 + n := by
  have e : smallB n k (.str z) = (z.cps.toList.all (fun c => decide (c < 128)) && decide (z.length ≤ 100 + n)) := by cases k <;> rfl
  rw [e, Bool.and_eq_true, List.all_eq_true, decide_eq_true_iff]
  exact and_congr_left' (forall_congr' fun c => imp_congr_right fun _ => decide_eq_true_iff)
theorem small_tup {n k : Nat} {ds : List D} : smallB n (k + 1) (.tup ds) = true ↔ ds.length ≤ 100 + n ∧ ∀ d ∈ ds, smallB n k d = true := by simp [smallB]
theorem small_lst {n k : Nat} {ds : List D} : smallB n (k + 1) (.lst ds) = true ↔ ds.length ≤ 100 + n ∧ ∀ d ∈ ds, smallB n k d = true := by simp [smallB]
theorem small_non {n k : Nat} : smallB n k .non = true := by cases k <;> rfl
theorem small_bl {n k : Nat} {b : Bool} : smallB n k (.bl b) = true := by cases k <;> rfl
theorem small_dct {n k : Nat} {ks : List Key} {ds : List D} : smallB n k (.dct ks ds) = ks.isEmpty := by cases k <;> rfl
theorem small_mono {n n' : Nat} (hn : n ≤ n') : ∀ {k k' : Nat} {d : D}, k ≤ k' → smallB n k d = true → smallB n' k' d = true
  | k, k', .non, _, _ => small_non
  | k, k', .bl b, _, _ => small_bl
  | k, k', .int i, _, h => small_int.mpr (by have := small_int.mp h; omega)
  | k, k', .str z, _, h => small_str.mpr ⟨(small_str.mp h).1, by have := (small_str.mp h).2; omega⟩
  | k, k', .dct ks ds, _, h => by
    rw [small_dct] at h ⊢
    exact h
  | 0, _, .tup ds, _, h => by cases h
  | 0, _, .lst ds, _, h => by cases h
  | k + 1, 0, .tup ds, hk, h => by omega
  | k + 1, 0, .lst ds, hk, h => by omega
  | k + 1, k' + 1, .tup ds, hk, h => small_tup.mpr ⟨by have := (small_tup.mp h).1; omega, fun d hd => small_mono hn (by omega) ((small_tup.mp h).2 d hd)⟩
  | k + 1, k' + 1, .lst ds, hk, h => small_lst.mpr ⟨by have := (small_lst.mp h).1; omega, fun d hd => small_mono hn (by omega) ((small_lst.mp h).2 d hd)⟩
  | 0, _, .fn _, _, h => by cases h
  | k + 1, _, .fn _, _, h => by cases h
  | 0, _, .scr _, _, h => by cases h
  | k + 1, _, .scr _, _, h => by cases h
theorem cut_both {α : Type} (xs : List α) (a b : Nat) : cutG xs (some (a : Int)) (some (b : Int)) = (xs.drop (min a xs.length)).take (min b xs.length - min a xs.length) := by
  unfold cutG
  rw [HT.sIx_nat, HT.sIx_nat]
theorem cut_mem {α : Type} {xs : List α} {lo hi : Option Int} {x : α} (h : x ∈ cutG xs lo hi) : x ∈ xs := List.mem_of_mem_drop (List.mem_of_mem_take h)
theorem o_idxM {ds : List D} {x : Nat} {Q : D → Prop} (hx : x < ds.length) (h : ∀ d ∈ ds, Q d) : Ok (idxD (.lst ds) (.int x)) Q := by
  obtain ⟨d, h1, h2⟩ := getSome hx
  exact o_idxL h1 (h d h2)
theorem o_idxMT {ds : List D} {x : Nat} {Q : D → Prop} (hx : x < ds.length) (h : ∀ d ∈ ds, Q d) : Ok (idxD (.tup ds) (.int x)) Q := by
  obtain ⟨d, h1, h2⟩ := getSome hx
  exact o_idxT h1 (h d h2)
theorem o_neT0 {ds : List D} {Q : D → Prop} (h : Q (.bl (!ds.isEmpty))) : Ok (neT0 (.tup ds) (.tup [])) Q := ⟨_, rfl, h⟩
theorem o_listT {ds : List D} {Q : D → Prop} (h : Q (.lst ds)) : Ok (listD [.tup ds]) Q := ⟨_, rfl, h⟩
theorem o_revT {ds : List D} {Q : D → Prop} (h : Q (.tup ds.reverse)) : Ok (revD (.tup ds)) Q := ⟨_, rfl, h⟩
theorem o_revS {z : Str} {Q : D → Prop} (hz : z.length ≤ sizeLine) (h : Q (.str (revS z))) : Ok (revD (.str z)) Q := ⟨_, if_pos hz, h⟩
theorem o_sliS {z : Str} {lo hi : Option Int} {Q : D → Prop} (hz : z.length ≤ sizeLine) (h : Q (.str (cutS z lo hi))) : Ok (sliR lo hi (.str z)) Q := ⟨_, if_pos hz, h⟩
theorem o_upS {z : Str} {Q : D → Prop} (hz : z.length ≤ 1000) (h : Q (.str (Txt.upper z))) : Ok (upD (.str z)) Q := ⟨_, if_pos (Nat.le_trans hz (by decide)), h⟩
theorem Asc.cut {z : Str} {lo hi : Option Int} (h : Asc z) : Asc (cutS z lo hi) := fun c hc => by
  unfold cutS at hc
  rw [List.toList_toArray] at hc
  exact h c (List.mem_of_mem_drop (List.mem_of_mem_take hc))
theorem all5 {P : D → Prop} {a b c d e : D} (h1 : P a) (h2 : P b) (h3 : P c) (h4 : P d) (h5 : P e) : ∀ x ∈ [a, b, c, d, e], P x := by simp [h1, h2, h3, h4, h5]
theorem all4 {P : D → Prop} {a b c d : D} (h1 : P a) (h2 : P b) (h3 : P c) (h4 : P d) : ∀ x ∈ [a, b, c, d], P x := by simp [h1, h2, h3, h4]
theorem all3 {P : D → Prop} {a b c : D} (h1 : P a) (h2 : P b) (h3 : P c) : ∀ x ∈ [a, b, c], P x := by simp [h1, h2, h3]
theorem sz1 {n : Nat} (h : n ≤ 1000) : n ≤ sizeLine := le_size h
/-- a list of small data in a tuple's place -/
theorem small_sub {n k : Nat} {ds es : List D} (h : ∀ d ∈ ds, smallB n k d = true) (hl : es.length ≤ 100 + (n + 1)) (he : ∀ d ∈ es, d ∈ ds ∨ smallB (n + 1) (k + 4) d = true) : smallB (n + 1) (k + 1 + 4) (.tup es) = true := by
  refine small_tup.mpr ⟨hl, fun d hd => ?_⟩
  rcases he d hd with h1 | h1
  · exact small_mono (Nat.le_succ n) (by omega) (h d h1)
  · exact h1
theorem asc_a : Asc "a" := by
  unfold Asc
  decide
theorem o_mulB {x : D} {b : Bool} {Q : D → Prop} (h : Q (.lst (if b = true then [x] else []))) : Ok (mulD (.lst [x]) (.int (if b = true then 1 else 0))) Q := by
  cases b
  · exact ⟨_, rfl, h⟩
  · exact ⟨_, rfl, h⟩
theorem small_ints {a b : Int} {k : Nat} (h1 : a.natAbs ≤ 1000000000000000000000000000000000000000000000) (h2 : b.natAbs ≤ 1000000000000000000000000000000000000000000000) : smallB 0 (k + 1) (.tup [.int a, .int b]) = true :=
  small_tup.mpr ⟨by show 2 ≤ 100; decide, fun d hd => by
    rcases List.mem_cons.mp hd with rfl | hd
    · exact small_int.mpr (by omega)
    · rw [List.mem_singleton.mp hd]
      exact small_int.mpr (by omega)⟩
theorem o_max {i j : Int} {Q : D → Prop} (h : Q (.int (max i j))) : Ok (maxD [.int i, .int j]) Q := by
  refine ⟨_, ?_, h⟩
  show R.ok (D.int (if j > i then j else i)) = _
  congr 2
  split <;> omega
theorem o_neg {i : Int} {Q : D → Prop} (h : Q (.int (-i))) : Ok (negD (.int i)) Q := ⟨_, rfl, h⟩
theorem o_idx0 {ds : List D} {Q : D → Prop} (h0 : ds ≠ []) (h : ∀ d ∈ ds, Q d) : Ok (idxD (.lst ds) (.int 0)) Q := o_idxM (x := 0) (by cases ds with | nil => exact absurd rfl h0 | cons a b => exact Nat.succ_pos _) h
theorem o_idx1 {ds : List D} {Q : D → Prop} (h0 : ds ≠ []) (h : ∀ d ∈ ds, Q d) : Ok (idxD (.lst ds) (.int (-1))) Q := by
  have hl : 0 < ds.length := by cases ds with | nil => exact absurd rfl h0 | cons a b => exact Nat.succ_pos _
  obtain ⟨d, h1, h2⟩ := getSome (ds := ds) (k := ds.length - 1) (by omega)
  have hx : ixN ds.length (-1) = some (ds.length - 1) := by
    unfold ixN
    simp
    omega
  exact ⟨d, by simp [idxD, atI, hx, h1], h d h2⟩
theorem int_clean {n k : Nat} {i : Int} (hn : n ≤ 100) (h : smallB n k (.int i) = true) : i.natAbs.log2 < 300000 := by
  have h1 := small_int.mp h
  have h2 := log2_lt' (n := i.natAbs) (k := 200) (Nat.lt_of_le_of_lt (show i.natAbs ≤ 2000000000000000000000000000000000000000000000 by omega) (by decide)) (by decide)
  omega
theorem small_clean1 {n k : Nat} {d : D} (hn : n ≤ 100) (h : smallB n k d = true) : clean1 d = true := by
  cases d with
  | fn j => cases k <;> cases h
  | int i => exact decide_eq_true (int_clean hn h)
  | _ => rfl
theorem small_clean2 {n k : Nat} {d : D} (hn : n ≤ 100) (h : smallB n k d = true) : clean2 d = true := by
  cases d with
  | fn j => cases k <;> cases h
  | tup ds =>
    cases k with
    | zero => cases h
    | succ k =>
      obtain ⟨h1, h2⟩ := small_tup.mp h
      show (ds.all clean1 && decide (ds.length ≤ 1000)) = true
      rw [Bool.and_eq_true, List.all_eq_true]
      exact ⟨fun d hd => small_clean1 hn (h2 d hd), decide_eq_true (by omega)⟩
  | _ => rfl
theorem small_clean3 {n k : Nat} {d : D} (hn : n ≤ 100) (h : smallB n k d = true) : clean3 d = true := by
  cases d with
  | fn j => cases k <;> cases h
  | int i => exact decide_eq_true (int_clean hn h)
  | tup ds =>
    cases k with
    | zero => cases h
    | succ k =>
      obtain ⟨h1, h2⟩ := small_tup.mp h
      show (ds.all clean2 && decide (ds.length ≤ 1000)) = true
      rw [Bool.and_eq_true, List.all_eq_true]
      exact ⟨fun d hd => small_clean2 hn (h2 d hd), decide_eq_true (by omega)⟩
  | _ => rfl
theorem ext_map {ds rs : List D} {hh : D → D} (hl : rs.length = ds.length) (h : ∀ (j : Nat) (d r : D), ds[j]? = some d → rs[j]? = some r → r = hh d) : rs = ds.map hh := by
  apply List.ext_getElem?
  intro j
  rw [List.getElem?_map]
  by_cases hj : j < ds.length
  · obtain ⟨d, hd, _⟩ := getSome hj
    obtain ⟨r, hr, _⟩ := getSome (ds := rs) (k := j) (by omega)
    rw [hd, hr, h j d r hd hr]
    rfl
  · rw [List.getElem?_eq_none (by omega), List.getElem?_eq_none (by omega)]
    rfl
theorem w_lcMap {i : Nat} {el : MD D} {F : MD (List D)} {e : Lc} (hh : List D → D → D) {Q : List D → Lc → Prop} (hi : i < e.length) (h : Wp F e fun ds e1 => e1 = e ∧ ds.length ≤ sizeLine ∧ (∀ d ∈ ds, Wp el (e.set i (some d)) fun r e2 => e2 = e.set i (some d) ∧ r = hh ds d) ∧ Q (ds.map (hh ds)) e) : Wp (lcM [i] F (nmG i) yesT el) e Q :=
  w_lcM (fun ds d r => r = hh ds d) hi (h.mono fun ds e1 ⟨h1, h2, h3, h4⟩ => ⟨h1, h2, h3, fun rs hl hr => by rw [ext_map hl hr]; exact h4⟩)
theorem o_all {ds : List D} {p : D → Bool} {Q : D → Prop} (h : Q (.bl (ds.all p))) : Ok (allD [.lst (ds.map fun d => .bl (p d))]) Q := ⟨.bl (ds.all p), by simp [allD, blsD_map, List.all_map, Function.comp_def], h⟩
theorem o_isTupN {d : D} {Q : D → Prop} (h0 : ∀ ds, d ≠ .tup ds) (h1 : ∀ j, d ≠ .fn j) (h : Q (.bl false)) : Ok (isiD isTup d) Q := by
  cases d with
  | tup ds => exact absurd rfl (h0 ds)
  | fn j => exact absurd rfl (h1 j)
  | _ => exact ⟨_, rfl, h⟩
theorem small_fn {n k : Nat} {d : D} (h : smallB n k d = true) : ∀ j, d ≠ .fn j := fun j z => by
  subst z
  cases k <;> cases h
theorem small_part {n k : Nat} {ds : List D} (h : smallB n k (.tup ds) = true) : ∀ d ∈ ds, smallB n (k - 1) d = true := by
  cases k with
  | zero => cases h
  | succ k => exact (small_tup.mp h).2
theorem small_tlen {n k : Nat} {ds : List D} (h : smallB n k (.tup ds) = true) : ds.length ≤ 100 + n := by
  cases k with
  | zero => cases h
  | succ k => exact (small_tup.mp h).1
theorem two_of {ws : List D} (h : ws.length = 2) (hw : ws.all whole = true) : ∃ k t : Nat, ws = [.int k, .int t] := by
  match ws, h with
  | [a, b], _ =>
    rw [List.all_eq_true] at hw
    obtain ⟨k, rfl⟩ := whole_int (hw a (by simp))
    obtain ⟨t, rfl⟩ := whole_int (hw b (by simp))
    exact ⟨k, t, rfl⟩
theorem o_eqS {a b : Str} {Q : D → Prop} (h : Q (.bl (a == b))) : Ok (eqD (.str a) (.str b)) Q := ⟨_, rfl, h⟩
theorem w_lcGen {vs : List Nat} {g : GD} {el : MD D} {F : MD (List D)} {e : Lc} (hh : List D → D → D) {Q : List D → Lc → Prop} (hk : keepL e (wipeL e vs) vs = e) (h : Wp F e fun ds e1 => e1 = e ∧ ds.length ≤ sizeLine ∧ (∀ d ∈ ds, Ok (g d (wipeL e vs)) fun e2 => Wp el e2 fun r e3 => e3 = e2 ∧ r = hh ds d ∧ wipeL e2 vs = wipeL e vs) ∧ Q (ds.map (hh ds)) e) : Wp (lcM vs F g yesT el) e Q := by
  obtain ⟨ds, e1, hF, rfl, hz, h, hq⟩ := h
  refine ⟨ds.map (hh ds), e1, ?_, hq⟩
  unfold lcM
  rw [hF]
  simp only [R.bind_ok]
  rw [if_pos hz, lcS_gen (hh := hh ds) ds fun d hd => ?_]
  · simp only [R.bind_ok, hk]
  · obtain ⟨e2, h1, r, e3, h2, rfl, rfl, h3⟩ := h d hd
    exact ⟨e3, h1, h2, h3⟩
theorem w_zipM {a : MD (List D)} {e : Lc} {Q : List D → Lc → Prop} (h : Wp a e fun ds e1 => ∃ xs ys : List D, ds = [.tup xs, .tup ys] ∧ Q (zipL xs ys) e1) : Wp (zipM a) e Q := by
  obtain ⟨_, e1, h1, xs, ys, rfl, h2⟩ := h
  exact ⟨_, _, by unfold zipM; rw [h1]; rfl, h2⟩
theorem zipL_mem : ∀ {xs ys : List D} {d : D}, d ∈ zipL xs ys → ∃ x y : D, d = .tup [x, y] ∧ x ∈ xs ∧ y ∈ ys
  | [], ys, d, h => by simp [zipL] at h
  | x :: xs, [], d, h => by simp [zipL] at h
  | x :: xs, y :: ys, d, h => by
    rcases List.mem_cons.mp h with rfl | h
    · exact ⟨x, y, rfl, List.mem_cons_self .., List.mem_cons_self ..⟩
    · obtain ⟨a, b, e, h1, h2⟩ := zipL_mem h
      exact ⟨a, b, e, List.mem_cons_of_mem _ h1, List.mem_cons_of_mem _ h2⟩
theorem o_isStrN {d : D} {Q : D → Prop} (h0 : ∀ z, d ≠ .str z) (h1 : ∀ j, d ≠ .fn j) (h : Q (.bl false)) : Ok (isiD isStr d) Q := by
  cases d with
  | str ds => exact absurd rfl (h0 ds)
  | fn j => exact absurd rfl (h1 j)
  | _ => exact ⟨_, rfl, h⟩
theorem w_calA {T : Nat → Option (List D → R D)} {i j : Nat} {fa : MD (List D)} {e : Lc} {F : List D → R D} {Q : D → Lc → Prop} (h0 : e[i]? = some (some (.fn j))) (hT : T j = some F) (h : Wp fa e fun ds e1 => Ok (F ds) fun r => Q r e1) : Wp (calA T i fa) e Q := by
  obtain ⟨ds, e1, h1, r, h2, h3⟩ := h
  exact ⟨r, e1, by simp only [calA, h0, hT, h1, h2, R.bind_ok, noX, R.at_ok], h3⟩
theorem o_truT {ds : List D} {Q : Bool → Prop} (h : Q (!ds.isEmpty)) : Ok (truR (.tup ds)) Q := ⟨_, rfl, h⟩
theorem cut1 (w : D) (r : List D) : cutG (w :: r) (some 1) none = r := by
  rw [show (1 : Int) = ((1 : Nat) : Int) from rfl, cut_drop]
  rfl
theorem o_eqB {a b : Bool} {Q : D → Prop} (h : Q (.bl (a == b))) : Ok (eqD (.bl a) (.bl b)) Q := ⟨_, rfl, h⟩
theorem o_abs {i : Int} {Q : D → Prop} (h : ∀ j : Int, 0 ≤ j → Q (.int j)) : Ok (absD [.int i]) Q := ⟨_, rfl, h _ (by split <;> omega)⟩
theorem o_min {i j : Int} {Q : D → Prop} (h : Q (.int (min i j))) : Ok (minD [.int i, .int j]) Q := by
  refine ⟨_, ?_, h⟩
  show R.ok (D.int (if j < i then j else i)) = _
  congr 2
  split <;> omega
theorem o_lenS {ns : List Int} {Q : D → Prop} (h : Q (.int ns.length)) : Ok (lenD [.scr ns]) Q := ⟨_, rfl, h⟩
theorem o_isB {a b : Bool} {Q : D → Prop} (h : Q (.bl (decide (a = b)))) : Ok (isB (.bl a) (.bl b)) Q := ⟨_, rfl, h⟩
/-- a loop that may be left by a return -/
theorem w_forS2 {g : GD} {b : MS} {Q : Fl → Lc → Prop} (I : Nat → Lc → Prop) : ∀ (ds : List D) (k : Nat) (e : Lc), (∀ i d e, ds[i]? = some d → I (k + i) e → Ok (g d e) fun e1 => Wp b e1 fun fl e2 => (fl = .nx ∧ I (k + i + 1) e2) ∨ ∃ r, fl = .rt r ∧ Q (.rt r) e2) → I k e → (∀ e, I (k + ds.length) e → Q .nx e) → Wp (forS g b ds) e Q
  | [], k, e, _, h, hq => ⟨_, _, rfl, hq e h⟩
  | d :: ds, k, e, hs, h, hq => by
    obtain ⟨e1, h1, fl, e2, h2, h3⟩ := hs 0 d e rfl h
    rcases h3 with ⟨rfl, h4⟩ | ⟨r, rfl, h4⟩
    · obtain ⟨fl, e3, h5, h6⟩ := w_forS2 (g := g) (b := b) (Q := Q) I ds (k + 1) e2 (fun i d e hi hI => by
        have e1 : k + 1 + i = k + (i + 1) := by omega
        rw [e1] at hI ⊢
        exact hs (i + 1) d e hi hI) h4 (fun e he => hq e (by
          have e1 : k + (d :: ds).length = k + 1 + ds.length := by simp only [List.length_cons]; omega
          rw [e1]
          exact he))
      refine ⟨fl, e3, ?_, h6⟩
      conv => lhs; unfold forS
      rw [h1]
      simp only [R.bind_ok]
      rw [h2]
      exact h5
    · exact ⟨_, _, forS_rt h1 h2, h4⟩
theorem w_forM2 {F : MD (List D)} {g : GD} {b : MS} {e : Lc} {Q : Fl → Lc → Prop} (I : List D → Nat → Lc → Prop) (h : Wp F e fun ds e1 => I ds 0 e1 ∧ (∀ i d e, ds[i]? = some d → I ds i e → Ok (g d e) fun e1 => Wp b e1 fun fl e2 => (fl = .nx ∧ I ds (i + 1) e2) ∨ ∃ r, fl = .rt r ∧ Q (.rt r) e2) ∧ ∀ e, I ds ds.length e → Q .nx e) : Wp (forM F g b) e Q := by
  obtain ⟨ds, e1, h0, h1, h2, h3⟩ := h
  obtain ⟨fl, e2, h4, h5⟩ := w_forS2 (g := g) (b := b) (Q := Q) (I ds) ds 0 e1 (fun i d e h1 hI => by rw [Nat.zero_add] at hI ⊢; exact h2 i d e h1 hI) h1 (fun e he => h3 e (by rwa [Nat.zero_add] at he))
  exact ⟨_, e2, by rw [s_forM, h0, R.bind_ok]; exact h4, h5⟩
theorem o_isNN {d : D} {Q : D → Prop} (h1 : d = .non → Q (.bl false)) (h2 : d ≠ .non → Q (.bl true)) : Ok (isNN d .non) Q := by
  cases d with
  | non => exact ⟨_, rfl, h1 rfl⟩
  | _ => exact ⟨_, rfl, h2 (fun z => by cases z)⟩
theorem o_isN {d : D} {Q : D → Prop} (h1 : d = .non → Q (.bl true)) (h2 : d ≠ .non → Q (.bl false)) : Ok (isN d .non) Q := by
  cases d with
  | non => exact ⟨_, rfl, h1 rfl⟩
  | _ => exact ⟨_, rfl, h2 (fun z => by cases z)⟩
theorem intsD_map : ∀ ns : List Int, intsD (ns.map D.int) = some ns
  | [] => rfl
  | n :: ns => by
    rw [List.map_cons]
    unfold intsD
    rw [intsD_map ns]
theorem o_sum {ns : List Int} {Q : D → Prop} (h : Q (.int ns.sum)) : Ok (sumD [.lst (ns.map D.int)]) Q := ⟨_, by simp only [sumD, intsD_map], h⟩
theorem o_any {ds : List D} {p : D → Bool} {Q : D → Prop} (h : Q (.bl (ds.any p))) : Ok (anyD [.lst (ds.map fun d => .bl (p d))]) Q := ⟨.bl (ds.any p), by simp [anyD, blsD_map, List.any_map, Function.comp_def], h⟩
/-! ### how much there is in a datum -/
mutual
def wt : D → Nat
  | .int _ => 200
  | .str x => x.length
  | .tup ds => wts ds
  | .lst ds => wts ds
  | _ => 0
def wts : List D → Nat
  | [] => 0
  | d :: ds => wt d + 1 + wts ds
end
theorem wts_app : ∀ ds es : List D, wts (ds ++ es) = wts ds + wts es
  | [], es => by rw [List.nil_append, wts]; omega
  | d :: ds, es => by
    rw [List.cons_append, wts, wts, wts_app ds es]
    omega
theorem wts_rev : ∀ ds : List D, wts ds.reverse = wts ds
  | [] => rfl
  | d :: ds => by
    rw [List.reverse_cons, wts_app, wts_rev ds, wts, wts, wts]
    omega
theorem wts_cut (ds : List D) (k : Nat) : wts (ds.take k) + wts (ds.drop k) = wts ds := by rw [← wts_app, List.take_append_drop]
theorem wts_mem : ∀ {ds : List D} {d : D}, d ∈ ds → wt d + 1 ≤ wts ds
  | x :: ds, d, h => by
    rw [wts]
    rcases List.mem_cons.mp h with rfl | h
    · omega
    · have := wts_mem h
      omega
theorem wts_at {ds : List D} {k : Nat} {d : D} (h : ds[k]? = some d) : wts (ds.take k) + (wt d + 1) + wts (ds.drop (k + 1)) = wts ds := by
  have h1 := wts_cut ds k
  obtain ⟨hk, rfl⟩ := List.getElem?_eq_some_iff.mp h
  rw [List.drop_eq_getElem_cons hk, wts] at h1
  omega
theorem wts_bound {ds : List D} {b : Nat} (h : ∀ d ∈ ds, wt d ≤ b) : wts ds ≤ ds.length * (b + 1) := by
  induction ds with
  | nil => exact Nat.zero_le _
  | cons d ds ih =>
    have h1 := h d (List.mem_cons_self ..)
    have h2 := ih fun x hx => h x (List.mem_cons_of_mem _ hx)
    rw [wts, List.length_cons, Nat.succ_mul]
    omega
/-- small, and not much -/
def Sm (n k w : Nat) (d : D) : Prop := smallB n k d = true ∧ wt d ≤ w
theorem Sm.mono {n k w n' k' w' : Nat} {d : D} (h : Sm n k w d) (hn : n ≤ n') (hk : k ≤ k') (hw : w ≤ w') : Sm n' k' w' d := ⟨small_mono hn hk h.1, Nat.le_trans h.2 hw⟩
end Dn

namespace Dn
open PySem PySem.Spec PyProof.Rows L2
/-! ### the text of tuples of whole numbers -/
/-- no digit ahead -/
def NoDig (l : List Nat) : Prop := ∀ c r, l = c :: r → c < 48 ∨ 57 < c
theorem dig_cut : ∀ {a b s t : List Nat}, NumText.AllDigits a → NumText.AllDigits b → NoDig s → NoDig t → a ++ s = b ++ t → a = b ∧ s = t
  | [], [], s, t, _, _, _, _, h => ⟨rfl, h⟩
  | [], c :: b, s, t, _, hb, hs, _, h => by
    have h1 := hb c (List.mem_cons_self ..)
    have h2 := hs c (b ++ t) h
    omega
  | c :: a, [], s, t, ha, _, _, ht, h => by
    have h1 := ha c (List.mem_cons_self ..)
    have h2 := ht c (a ++ s) h.symm
    omega
  | c :: a, d :: b, s, t, ha, hb, hs, ht, h => by
    injection h with h1 h2
    obtain ⟨h3, h4⟩ := dig_cut (fun x hx => ha x (List.mem_cons_of_mem _ hx)) (fun x hx => hb x (List.mem_cons_of_mem _ hx)) hs ht h2
    exact ⟨by rw [h1, h3], h4⟩
theorem foldl_head {α : Type} (f : Nat → List Nat) : ∀ (l : List Nat) (acc : Array Nat), ∃ r, (l.foldl (fun out c => out ++ (f c).toArray) acc).toList = acc.toList ++ r
  | [], acc => ⟨[], by simp⟩
  | c :: l, acc => by
    obtain ⟨r, h⟩ := foldl_head (α := α) f l (acc ++ (f c).toArray)
    exact ⟨f c ++ r, by rw [List.foldl_cons, h]; simp⟩
theorem repr_head (x : Str) : ∃ r, TL.tl (reprText x) = reprQuote x :: r := by
  unfold reprText TL.tl
  obtain ⟨r, h⟩ := foldl_head (α := Nat) (fun c => Builtin.Str.reprChar (reprQuote x) c) x.cps.toList #[reprQuote x]
  refine ⟨r ++ [reprQuote x], ?_⟩
  show ((x.cps.foldl (fun out c => out ++ (Builtin.Str.reprChar (reprQuote x) c).toArray) #[reprQuote x]).push (reprQuote x)).toList = _
  rw [Array.toList_push, ← Array.foldl_toList, h]
  rfl
theorem quote_or (x : Str) : reprQuote x = 34 ∨ reprQuote x = 39 := by
  unfold reprQuote
  split
  · exact .inl rfl
  · exact .inr rfl
theorem text_head : ∀ (ts : List Str) (k : Nat) (acc : Str), ∃ r, TL.tl (textFrom k acc ts) = TL.tl acc ++ r
  | [], k, acc => ⟨[], by show TL.tl acc = _; simp⟩
  | t :: ts, k, acc => by
    obtain ⟨r, h⟩ := text_head ts (k + 1) (acc ++ (if k > 0 then ", " else "" : String) ++ t)
    refine ⟨TL.tl (Str.ofString (if k > 0 then ", " else "" : String)) ++ TL.tl t ++ r, ?_⟩
    show TL.tl (textFrom (k + 1) _ ts) = _
    rw [h, TL.tl_append, TL.tl_append]
    simp
theorem list_head (ts : List Str) : ∃ r, TL.tl (listText ts) = 91 :: r := by
  obtain ⟨r, h⟩ := text_head ts 0 "["
  refine ⟨r ++ [93], ?_⟩
  unfold listText
  rw [TL.tl_append, h]
  rfl
theorem dict_head (ts : List Str) : ∃ r, TL.tl (dictText ts) = 123 :: r := by
  unfold dictText
  rw [TL.tl_append, TL.tl_append]
  exact ⟨_, rfl⟩
def endL (n : Nat) : List Nat := if n = 1 then [44, 41] else [41]
theorem tup_tl (ts : List Str) : TL.tl (tupleText ts) = 40 :: (TL.joinL [44, 32] (ts.map TL.tl) ++ endL ts.length) := by
  unfold tupleText
  rw [TL.tl_append, TL.tl_append, TL.tl_join]
  have e1 : TL.tl (Str.ofString "(") = [40] := rfl
  have e2 : TL.tl (Str.ofString ", ") = [44, 32] := rfl
  have e3 : TL.tl (Str.ofString (if ts.length == 1 then ",)" else ")" : String)) = endL ts.length := by
    unfold endL
    by_cases h : ts.length = 1
    · rw [h]
      rfl
    · rw [if_neg h, if_neg (by simpa using h)]
      rfl
  show [40] ++ _ ++ TL.tl (Str.ofString (if ts.length == 1 then ",)" else ")" : String)) = _
  rw [e3]
  simp [e2]
/-- a text's parts behind the first one -/
def restL : List (List Nat) → List Nat
  | [] => []
  | p :: r => 44 :: 32 :: (p ++ restL r)
theorem join_rest (p : List Nat) : ∀ r : List (List Nat), TL.joinL [44, 32] (p :: r) = p ++ restL r
  | [] => by show p = p ++ []; simp
  | q :: r => by
    show p ++ ([44, 32] ++ TL.joinL [44, 32] (q :: r)) = _
    rw [join_rest q r]
    rfl
theorem shown_neg (m : Nat) : ∃ r, TL.tl (PyData.shown (.int (Int.negSucc m))) = 45 :: r := by
  rw [PyData.shown]
  show ∃ r, TL.tl (Str.ofString (toString (Int.negSucc m))) = 45 :: r
  rw [TL.tl_ofString]
  have e : toString (Int.negSucc m) = "-" ++ toString (m + 1) := rfl
  rw [e, String.toList_append]
  exact ⟨_, rfl⟩
theorem shown_nat (m : Nat) : TL.tl (PyData.shown (.int (m : Int))) = TL.numL m := by
  rw [PyData.shown]
  exact TL.tl_num m
/-- what a text begins with -/
theorem shown_head (p : PyData) : ∃ c r, TL.tl p.shown = c :: r ∧ c ≠ 41 ∧ ((∃ m : Nat, p = .int m) ∨ ((c < 48 ∨ 57 < c) ∧ ((∃ ps, p = .tuple ps) ∨ c ≠ 40))) := by
  cases p with
  | none => exact ⟨78, [111, 110, 101], by rw [PyData.shown]; rfl, by omega, .inr ⟨by omega, .inr (by omega)⟩⟩
  | bool b => cases b with
    | true => exact ⟨84, [114, 117, 101], by rw [PyData.shown]; rfl, by omega, .inr ⟨by omega, .inr (by omega)⟩⟩
    | false => exact ⟨70, [97, 108, 115, 101], by rw [PyData.shown]; rfl, by omega, .inr ⟨by omega, .inr (by omega)⟩⟩
  | int i => cases i with
    | ofNat m =>
      obtain ⟨c, r, h⟩ : ∃ c r, TL.numL m = c :: r := by
        cases h : TL.numL m with
        | nil => exact absurd h (TL.numL_ne m)
        | cons c r => exact ⟨c, r, rfl⟩
      have := TL.numL_digits m c (by rw [h]; exact List.mem_cons_self ..)
      exact ⟨c, r, by rw [← h]; exact shown_nat m, by omega, .inl ⟨m, rfl⟩⟩
    | negSucc m =>
      obtain ⟨r, h⟩ := shown_neg m
      exact ⟨45, r, h, by omega, .inr ⟨by omega, .inr (by omega)⟩⟩
  | str x =>
    obtain ⟨r, h⟩ := repr_head x
    refine ⟨_, r, by rw [PyData.shown]; exact h, ?_, .inr ?_⟩
    · rcases quote_or x with e | e <;> rw [e] <;> omega
    · rcases quote_or x with e | e <;> rw [e] <;> exact ⟨by omega, .inr (by omega)⟩
  | list xs =>
    obtain ⟨r, h⟩ := list_head (PyData.shownAll xs)
    exact ⟨91, r, by rw [PyData.shown]; exact h, by omega, .inr ⟨by omega, .inr (by omega)⟩⟩
  | tuple xs => exact ⟨40, _, by rw [PyData.shown]; exact tup_tl _, by omega, .inr ⟨by omega, .inl ⟨xs, rfl⟩⟩⟩
  | dict kvs =>
    obtain ⟨r, h⟩ := dict_head (PyData.shownKv kvs)
    exact ⟨123, r, by rw [PyData.shown]; exact h, by omega, .inr ⟨by omega, .inr (by omega)⟩⟩
/-! tuples of tuples of whole numbers -/
mutual
def natT : PyData → Bool
  | .int i => decide (0 ≤ i)
  | .tuple xs => natTs xs
  | _ => false
def natTs : List PyData → Bool
  | [] => true
  | x :: xs => natT x && natTs xs
end
theorem shownAll_map : ∀ xs : List PyData, PyData.shownAll xs = xs.map PyData.shown
  | [] => rfl
  | x :: xs => by
    rw [PyData.shownAll, shownAll_map xs]
    rfl
def txt (p : PyData) : List Nat := TL.tl p.shown
theorem txt_tup (xs : List PyData) : txt (.tuple xs) = 40 :: (TL.joinL [44, 32] (xs.map txt) ++ endL xs.length) := by
  unfold txt
  rw [PyData.shown, tup_tl, shownAll_map, List.map_map, List.length_map]
  rfl
theorem endL_cases (n : Nat) : endL n = [44, 41] ∨ endL n = [41] := by
  unfold endL
  split
  · exact .inl rfl
  · exact .inr rfl
theorem noDig_end (n : Nat) (s : List Nat) : NoDig (endL n ++ s) := fun c r h => by
  rcases endL_cases n with e | e <;> rw [e] at h <;> injection h with h1 h2 <;> omega
theorem noDig_rest (l : List (List Nat)) (n : Nat) (s : List Nat) : NoDig (restL l ++ (endL n ++ s)) := by
  cases l with
  | nil => exact noDig_end n s
  | cons p r =>
    intro c q h
    have h1 : 44 = c := by
      injection h
    omega
mutual
theorem txt_cut : ∀ (q : PyData), natT q = true → ∀ (p : PyData) (s t : List Nat), NoDig s → NoDig t → txt p ++ s = txt q ++ t → p = q ∧ s = t
  | .int i, hq, p, s, t, hs, ht, h => by
    have h0 : 0 ≤ i := of_decide_eq_true (by rw [natT] at hq; exact hq)
    obtain ⟨n, rfl⟩ : ∃ n : Nat, i = n := ⟨i.toNat, by rw [Int.toNat_of_nonneg h0]⟩
    have e1 : txt (.int (n : Int)) = TL.numL n := shown_nat n
    rw [e1] at h
    obtain ⟨c, r, h1, _, h2⟩ := shown_head p
    have h3 : txt p = c :: r := h1
    rcases h2 with ⟨m, rfl⟩ | ⟨h2, _⟩
    · have e2 : txt (.int (m : Int)) = TL.numL m := shown_nat m
      rw [e2] at h
      obtain ⟨h4, h5⟩ := dig_cut (TL.numL_digits m) (TL.numL_digits n) hs ht h
      rw [TL.numL_inj h4]
      exact ⟨rfl, h5⟩
    · cases hn : TL.numL n with
      | nil => exact absurd hn (TL.numL_ne n)
      | cons d r2 =>
        rw [h3, hn] at h
        injection h with h4 _
        have := TL.numL_digits n d (by rw [hn]; exact List.mem_cons_self ..)
        omega
  | .tuple qs, hq, p, s, t, hs, ht, h => by
    rw [natT] at hq
    rw [txt_tup] at h
    obtain ⟨c, r, h1, _, h2⟩ := shown_head p
    have h3 : txt p = c :: r := h1
    have hc : c = 40 := by
      rw [h3] at h
      injection h
    rcases h2 with ⟨m, rfl⟩ | ⟨_, ⟨ps, rfl⟩ | h2⟩
    · have e2 : txt (.int (m : Int)) = TL.numL m := shown_nat m
      rw [e2] at h3
      have := TL.numL_digits m c (by rw [h3]; exact List.mem_cons_self ..)
      omega
    · rw [txt_tup, List.cons_append, List.cons_append] at h
      injection h with _ h
      rw [List.append_assoc, List.append_assoc] at h
      match ps, qs, hq, h with
      | [], [], _, h =>
        refine ⟨rfl, ?_⟩
        injection h
      | [], q :: qs, hq, h =>
        exfalso
        rw [List.map_cons, join_rest, List.append_assoc] at h
        obtain ⟨c, r, h4, h5, _⟩ := shown_head q
        have h6 : txt q = c :: r := h4
        rw [h6] at h
        have h7 : 41 = c := by injection h
        exact h5 h7.symm
      | p :: ps, [], _, h =>
        exfalso
        rw [List.map_cons, join_rest, List.append_assoc] at h
        obtain ⟨c, r, h4, h5, _⟩ := shown_head p
        have h6 : txt p = c :: r := h4
        rw [h6] at h
        have h7 : c = 41 := by injection h
        exact h5 h7
      | p :: ps, q :: qs, hq, h =>
        rw [natTs, Bool.and_eq_true] at hq
        rw [List.map_cons, List.map_cons, join_rest, join_rest, List.append_assoc, List.append_assoc] at h
        obtain ⟨h4, h5⟩ := txt_cut q hq.1 p _ _ (noDig_rest _ _ _) (noDig_rest _ _ _) h
        obtain ⟨h6, h7⟩ := txts_cut qs hq.2 ps _ _ s t h5
        subst h4 h6
        refine ⟨rfl, ?_⟩
        rw [List.append_cancel_left_eq] at h7
        exact h7
    · exact absurd hc h2
  | .none, hq, _, _, _, _, _, _ => by unfold natT at hq; cases hq
  | .bool _, hq, _, _, _, _, _, _ => by unfold natT at hq; cases hq
  | .str _, hq, _, _, _, _, _, _ => by unfold natT at hq; cases hq
  | .list _, hq, _, _, _, _, _, _ => by unfold natT at hq; cases hq
  | .dict _, hq, _, _, _, _, _, _ => by unfold natT at hq; cases hq
theorem txts_cut : ∀ (qs : List PyData), natTs qs = true → ∀ (ps : List PyData) (n m : Nat) (s t : List Nat), restL (ps.map txt) ++ (endL n ++ s) = restL (qs.map txt) ++ (endL m ++ t) → ps = qs ∧ endL n ++ s = endL m ++ t
  | [], _, [], n, m, s, t, h => ⟨rfl, h⟩
  | [], _, p :: ps, n, m, s, t, h => by
    exfalso
    rcases endL_cases m with e | e <;> rw [e] at h
    · injection h with _ h
      injection h with h _
      omega
    · injection h with h _
      omega
  | q :: qs, _, [], n, m, s, t, h => by
    exfalso
    rcases endL_cases n with e | e <;> rw [e] at h
    · injection h with _ h
      injection h with h _
      omega
    · injection h with h _
      omega
  | q :: qs, hq, p :: ps, n, m, s, t, h => by
    rw [natTs, Bool.and_eq_true] at hq
    have h' : txt p ++ (restL (ps.map txt) ++ (endL n ++ s)) = txt q ++ (restL (qs.map txt) ++ (endL m ++ t)) := by
      rw [List.map_cons, List.map_cons, restL, restL] at h
      rw [List.cons_append, List.cons_append, List.cons_append, List.cons_append] at h
      injection h with _ h
      injection h with _ h
      rw [List.append_assoc, List.append_assoc] at h
      exact h
    obtain ⟨h4, h5⟩ := txt_cut q hq.1 p _ _ (noDig_rest _ _ _) (noDig_rest _ _ _) h'
    obtain ⟨h6, h7⟩ := txts_cut qs hq.2 ps _ _ s t h5
    exact ⟨by rw [h4, h6], h7⟩
end
theorem txt_inj {p q : PyData} (hq : natT q = true) (h : p.shown = q.shown) : p = q := (txt_cut q hq p [] [] (fun c r z => by cases z) (fun c r z => by cases z) (by unfold txt; rw [h])).1
end Dn

namespace Dn
open PySem PySem.Spec PyProof.Rows L2
/-! ### small data has a text -/
theorem int_small {i : Int} (h : i.natAbs ≤ 2000000000000000000000000000000000000000000000) : (PyData.shown (.int i)).length ≤ 60 ∧ i.natAbs.log2 < 190 := by
  have h1 : i.natAbs < 10 ^ 50 := Nat.lt_of_le_of_lt h (by decide)
  have h2 := int_text_length_le10 (k := 50) (by decide) h1
  refine ⟨?_, log2_lt' (Nat.lt_of_le_of_lt h (by decide)) (by decide)⟩
  rw [PyData.shown]
  show (Str.ofString (toString i)).length ≤ 60
  rw [PySem.ofString_length]
  omega
mutual
theorem pyr_small {n : Nat} (hn : n ≤ 100) : ∀ (k : Nat) (d : D), smallB n k d = true → ∃ p, D.pyr d = some p ∧ p.showable = true ∧ p.leavesShort 60 = true ∧ p.weight ≤ wt d ∧ p.depth ≤ k + 1
  | k, .non, _ => ⟨.none, rfl, rfl, rfl, Nat.zero_le _, Nat.zero_le _⟩
  | k, .bl b, _ => ⟨.bool b, rfl, rfl, rfl, Nat.zero_le _, Nat.zero_le _⟩
  | k, .int i, h => by
    have h1 := int_small (i := i) (by have := small_int.mp h; omega)
    refine ⟨.int i, rfl, ?_, ?_, ?_, Nat.zero_le _⟩
    · rw [PyData.showable]
      exact decide_eq_true (by omega)
    · rw [PyData.leavesShort]
      exact decide_eq_true h1.1
    · rw [PyData.weight, wt]
      split <;> omega
  | k, .str x, h => by
    have h1 := small_str.mp h
    refine ⟨.str x, rfl, rfl, ?_, ?_, Nat.zero_le _⟩
    · rw [PyData.leavesShort, List.all_eq_true]
      intro c hc
      exact decide_eq_true (Nat.lt_trans (h1.1 c hc) (by decide))
    · rw [PyData.weight, wt]
      exact Nat.le_refl _
  | k, .dct ks vs, h => by
    rw [small_dct] at h
    have : ks = [] := List.isEmpty_iff.mp h
    subst this
    exact ⟨.dict [], rfl, rfl, rfl, Nat.zero_le _, by
      show 0 + 1 ≤ k + 1
      omega⟩
  | 0, .tup ds, h => by cases h
  | 0, .lst ds, h => by cases h
  | k + 1, .tup ds, h => by
    obtain ⟨ps, h1, h2, h3, h4, h5⟩ := pyrs_small hn k ds (small_tup.mp h).2
    refine ⟨.tuple ps, by rw [D.pyr, h1], by rw [PyData.showable]; exact h2, by rw [PyData.leavesShort]; exact h3, by rw [PyData.weight, wt]; exact h4, by rw [PyData.depth]; omega⟩
  | k + 1, .lst ds, h => by
    obtain ⟨ps, h1, h2, h3, h4, h5⟩ := pyrs_small hn k ds (small_lst.mp h).2
    refine ⟨.list ps, by rw [D.pyr, h1], by rw [PyData.showable]; exact h2, by rw [PyData.leavesShort]; exact h3, by rw [PyData.weight, wt]; exact h4, by rw [PyData.depth]; omega⟩
  | 0, .fn _, h => by cases h
  | k + 1, .fn _, h => by cases h
  | 0, .scr _, h => by cases h
  | k + 1, .scr _, h => by cases h
theorem pyrs_small {n : Nat} (hn : n ≤ 100) : ∀ (k : Nat) (ds : List D), (∀ d ∈ ds, smallB n k d = true) → ∃ ps, pyrs ds = some ps ∧ PyData.showableAll ps = true ∧ PyData.leavesShortAll 60 ps = true ∧ PyData.weightAll ps ≤ wts ds ∧ PyData.depthAll ps ≤ k + 1
  | k, [], _ => ⟨[], rfl, rfl, rfl, Nat.zero_le _, Nat.zero_le _⟩
  | k, d :: ds, h => by
    obtain ⟨p, h1, h2, h3, h4, h5⟩ := pyr_small hn k d (h d (List.mem_cons_self ..))
    obtain ⟨ps, h6, h7, h8, h9, h10⟩ := pyrs_small hn k ds fun x hx => h x (List.mem_cons_of_mem _ hx)
    refine ⟨p :: ps, by rw [pyrs, h1, h6], ?_, ?_, ?_, ?_⟩
    · rw [PyData.showableAll, h2, h7]
      rfl
    · rw [PyData.leavesShortAll, h3, h8]
      rfl
    · rw [PyData.weightAll, wts]
      omega
    · rw [PyData.depthAll]
      omega
end
/-- the text of a small datum -/
theorem o_repr {n k : Nat} {d : D} {Q : D → Prop} (hn : n ≤ 100) (hk : k ≤ 50) (h : smallB n k d = true) (hw : wt d ≤ 260000) (q : ∀ p, D.pyr d = some p → Q (.str p.shown)) : Ok (reprD [d]) Q := by
  obtain ⟨p, h1, h2, h3, h4, h5⟩ := pyr_small hn k d h
  refine ⟨.str p.shown, ?_, q p h1⟩
  have h6 := PyData.shown_le 60 (by decide) p h3
  have h7 : p.shown.length ≤ sizeLine := by
    rw [sizeLine_eq]
    omega
  unfold reprD
  simp only [h1]
  exact if_pos ⟨h2, h7, by omega⟩
theorem o_neS {a b : Str} {Q : D → Prop} (h : Q (.bl (!(a == b)))) : Ok (neD (.str a) (.str b)) Q := ⟨_, rfl, h⟩
/-! what has the text of a tuple of whole numbers -/
mutual
def natD : D → Bool
  | .int i => decide (0 ≤ i)
  | .tup xs => natDs xs
  | _ => false
def natDs : List D → Bool
  | [] => true
  | x :: xs => natD x && natDs xs
end
mutual
theorem natD_pyr : ∀ d : D, natD d = true → ∃ p, D.pyr d = some p ∧ natT p = true
  | .int i, h => ⟨.int i, rfl, by rw [natT]; rw [natD] at h; exact h⟩
  | .tup ds, h => by
    rw [natD] at h
    obtain ⟨ps, h1, h2⟩ := natDs_pyr ds h
    exact ⟨.tuple ps, by rw [D.pyr, h1], by rw [natT]; exact h2⟩
  | .non, h => by unfold natD at h; cases h
  | .bl _, h => by unfold natD at h; cases h
  | .str _, h => by unfold natD at h; cases h
  | .lst _, h => by unfold natD at h; cases h
  | .dct _ _, h => by unfold natD at h; cases h
  | .fn _, h => by unfold natD at h; cases h
  | .scr _, h => by unfold natD at h; cases h
theorem natDs_pyr : ∀ ds : List D, natDs ds = true → ∃ ps, pyrs ds = some ps ∧ natTs ps = true
  | [], _ => ⟨[], rfl, rfl⟩
  | d :: ds, h => by
    rw [natDs, Bool.and_eq_true] at h
    obtain ⟨p, h1, h2⟩ := natD_pyr d h.1
    obtain ⟨ps, h3, h4⟩ := natDs_pyr ds h.2
    exact ⟨p :: ps, by rw [pyrs, h1, h3], by rw [natTs, h2, h4]; rfl⟩
end
mutual
theorem pyr_inj : ∀ (d e : D) (p : PyData), natD d = true → D.pyr d = some p → D.pyr e = some p → e = d
  | .int i, e, p, _, h1, h2 => by
    cases h1
    cases e with
    | int j =>
      cases h2
      rfl
    | tup es =>
      rw [D.pyr] at h2
      split at h2 <;> cases h2
    | lst es =>
      rw [D.pyr] at h2
      split at h2 <;> cases h2
    | dct ks vs => cases ks <;> cases h2
    | _ => cases h2
  | .tup ds, e, p, hd, h1, h2 => by
    rw [natD] at hd
    rw [D.pyr] at h1
    cases h3 : pyrs ds with
    | none =>
      rw [h3] at h1
      cases h1
    | some ps =>
      rw [h3] at h1
      cases h1
      cases e with
      | tup es =>
        rw [D.pyr] at h2
        cases h4 : pyrs es with
        | none =>
          rw [h4] at h2
          cases h2
        | some qs =>
          rw [h4] at h2
          cases h2
          rw [pyrs_inj ds es ps hd h3 h4]
      | lst es =>
        rw [D.pyr] at h2
        split at h2 <;> cases h2
      | dct ks vs => cases ks <;> cases h2
      | _ => cases h2
  | .non, _, _, h, _, _ => by unfold natD at h; cases h
  | .bl _, _, _, h, _, _ => by unfold natD at h; cases h
  | .str _, _, _, h, _, _ => by unfold natD at h; cases h
  | .lst _, _, _, h, _, _ => by unfold natD at h; cases h
  | .dct _ _, _, _, h, _, _ => by unfold natD at h; cases h
  | .fn _, _, _, h, _, _ => by unfold natD at h; cases h
  | .scr _, _, _, h, _, _ => by unfold natD at h; cases h
theorem pyrs_inj : ∀ (ds es : List D) (ps : List PyData), natDs ds = true → pyrs ds = some ps → pyrs es = some ps → es = ds
  | [], es, ps, _, h1, h2 => by
    cases h1
    cases es with
    | nil => rfl
    | cons e es =>
      rw [pyrs] at h2
      split at h2 <;> cases h2
  | d :: ds, es, ps, hd, h1, h2 => by
    rw [natDs, Bool.and_eq_true] at hd
    rw [pyrs] at h1
    split at h1
    · rename_i p qs h3 h4
      cases h1
      cases es with
      | nil => cases h2
      | cons e es =>
        rw [pyrs] at h2
        split at h2
        · rename_i p' qs' h5 h6
          cases h2
          rw [pyr_inj d e _ hd.1 h3 h5, pyrs_inj ds es _ hd.2 h4 h6]
        · cases h2
    · cases h1
end
/-- whatever has the text of a tuple of whole numbers is that tuple -/
theorem shown_same {d e : D} {p q : PyData} (hd : natD d = true) (h1 : D.pyr d = some p) (h2 : D.pyr e = some q) : (q.shown == p.shown) = true ↔ e = d := by
  rw [beq_iff_eq]
  constructor
  · intro h
    obtain ⟨p', h3, h4⟩ := natD_pyr d hd
    rw [h1] at h3
    cases h3
    have h5 := txt_inj h4 h
    subst h5
    exact pyr_inj d e _ hd h1 h2
  · intro h
    subst h
    rw [h1] at h2
    cases h2
    rfl
end Dn

namespace Dn
open PySem PySem.Spec PyProof.Rows L2
/-! ### the forward calculus, more of it -/
theorem w_chn3 {F G K : D → D → R D} {f g h l : MD D} {e : Lc} {Q : Bool → Lc → Prop} (hh : Wp f e fun a e1 => Wp g e1 fun b e2 => Ok (F a b) fun r => BlC r fun t => IfC t (Wp h e2 fun c e3 => Ok (G b c) fun r2 => BlC r2 fun t2 => IfC t2 (Wp l e3 fun d e4 => Ok (K c d) fun r3 => BlC r3 fun t3 => Q t3 e4) (Q false e3)) (Q false e2)) : Wp (chn3 F G K f g h l) e Q := by
  obtain ⟨a, e1, h1, b, e2, h2, _, h3, t, rfl, h4⟩ := hh
  cases t with
  | true =>
    obtain ⟨c, e3, h5, _, h6, t2, rfl, h7⟩ := h4.1 rfl
    cases t2 with
    | true =>
      obtain ⟨d, e4, h8, _, h9, t3, rfl, h10⟩ := h7.1 rfl
      exact ⟨t3, e4, by simp only [chn3, h1, h2, h3, h5, h6, h8, h9, R.bind_ok], h10⟩
    | false => exact ⟨_, _, by simp only [chn3, h1, h2, h3, h5, h6, R.bind_ok], h7.2 rfl⟩
  | false => exact ⟨_, _, by simp only [chn3, h1, h2, h3, R.bind_ok], h4.2 rfl⟩
theorem w_mulS {is : List Nat} {fs : Pts} {e : Lc} {Q : Fl → Lc → Prop} (h : Wp (evP fs) e fun ds e1 => Q .nx (setAll is ds e1)) : Wp (mulS is fs) e Q := by
  obtain ⟨ds, e1, h1, h2⟩ := h
  exact ⟨_, _, by simp only [mulS, h1, R.bind_ok, noX], h2⟩
theorem w_evN {e : Lc} {Q : List D → Lc → Prop} (h : Q [] e) : Wp (evP []) e Q := ⟨_, _, rfl, h⟩
theorem w_evL {f : MD D} {fs : Pts} {e : Lc} {Q : List D → Lc → Prop} (h : Wp f e fun d e1 => Wp (evP fs) e1 fun ds e2 => Q (d :: ds) e2) : Wp (evP (.inl f :: fs)) e Q := by
  obtain ⟨d, e1, h1, ds, e2, h2, h3⟩ := h
  exact ⟨_, _, by simp only [evP, h1, h2, R.bind_ok, noX], h3⟩
theorem w_evR {f : MD (List D)} {fs : Pts} {e : Lc} {Q : List D → Lc → Prop} (h : Wp f e fun es e1 => Wp (evP fs) e1 fun ds e2 => Q (.lst es :: ds) e2) : Wp (evP (.inr f :: fs)) e Q := by
  obtain ⟨d, e1, h1, ds, e2, h2, h3⟩ := h
  exact ⟨_, _, by simp only [evP, h1, h2, R.bind_ok, noX], h3⟩
theorem w_sortSet {f : MD D} {e : Lc} {Q : List D → Lc → Prop} (h : Wp f e fun d e1 => ∃ ns : List Int, d = .lst (ns.map D.int) ∧ ns.length < 60 ∧ Q ((sortU ns).map D.int) e1) : Wp (sortSetF f) e Q := by
  obtain ⟨d, e1, h1, ns, rfl, h2, h3⟩ := h
  have hi : ∀ ns : List Int, intsD (ns.map D.int) = some ns := fun ns => by
    induction ns with
    | nil => rfl
    | cons n ns ih =>
      rw [List.map_cons]
      unfold intsD
      rw [ih]
  exact ⟨_, _, by simp only [sortSetF, h1, R.bind_ok, hi, if_pos h2], h3⟩
theorem w_lstFr {f : MD D} {e : Lc} {Q : List D → Lc → Prop} (h : Wp f e fun d e1 => SqC d fun ds => Q ds e1) : Wp (lstFr f) e Q := by
  obtain ⟨d, e1, h1, ds, rfl | rfl, h2⟩ := h
  · exact ⟨_, _, by simp only [lstFr, h1, R.bind_ok], h2⟩
  · exact ⟨_, _, by simp only [lstFr, h1, R.bind_ok], h2⟩
theorem w_extS {i : Nat} {f : MD D} {e : Lc} {Q : Fl → Lc → Prop} (h : Wp f e fun d e1 => LstC d fun ys => GetL i e1 fun ds => ds.length + ys.length ≤ sizeLine ∧ Q .nx (e1.set i (some (.lst (ds ++ ys))))) : Wp (extS i f) e Q := by
  obtain ⟨_, e1, h1, ys, rfl, ds, h2, h3, h4⟩ := h
  exact ⟨_, _, by simp only [extS, h1, h2, R.bind_ok, if_pos h3], h4⟩
end Dn

namespace Dn
open PySem PySem.Spec PyProof.Rows L2
/-! ### tuples of tuples of whole numbers, compared -/
mutual
theorem eq_nat : ∀ (d e : D) (p q : PyData), natD d = true → natD e = true → D.py d = some p → D.py e = some q → (PyData.eqv p q = true ↔ d = e)
  | .int i, e, p, q, _, he, h1, h2 => by
    cases h1
    match e, he, h2 with
    | .int j, _, h2 =>
      cases h2
      rw [PyData.eqv, beq_iff_eq]
      exact ⟨fun z => (by rw [z]), fun z => (by injection z)⟩
    | .tup es, _, h2 =>
      unfold D.py at h2
      split at h2
      · cases h2
        rw [PyData.eqv]
        exact ⟨fun z => (by cases z), fun z => (by cases z)⟩
      · cases h2
    | .non, he, _ => unfold natD at he; cases he
    | .bl _, he, _ => unfold natD at he; cases he
    | .str _, he, _ => unfold natD at he; cases he
    | .lst _, he, _ => unfold natD at he; cases he
    | .dct _ _, he, _ => unfold natD at he; cases he
    | .fn _, he, _ => unfold natD at he; cases he
    | .scr _, he, _ => unfold natD at he; cases he
  | .tup ds, e, p, q, hd, he, h1, h2 => by
    rw [natD] at hd
    unfold D.py at h1
    split at h1
    · rename_i ps e1
      cases h1
      match e, he, h2 with
      | .int j, _, h2 =>
        cases h2
        rw [PyData.eqv]
        exact ⟨fun z => (by cases z), fun z => (by cases z)⟩
      | .tup es, he, h2 =>
        rw [natD] at he
        unfold D.py at h2
        split at h2
        · rename_i qs e2
          cases h2
          rw [PyData.eqv, eq_nats ds es ps qs hd he e1 e2]
          exact ⟨fun z => (by rw [z]), fun z => (by injection z)⟩
        · cases h2
      | .non, he, _ => unfold natD at he; cases he
      | .bl _, he, _ => unfold natD at he; cases he
      | .str _, he, _ => unfold natD at he; cases he
      | .lst _, he, _ => unfold natD at he; cases he
      | .dct _ _, he, _ => unfold natD at he; cases he
      | .fn _, he, _ => unfold natD at he; cases he
      | .scr _, he, _ => unfold natD at he; cases he
    · cases h1
  | .non, _, _, _, h, _, _, _ => by unfold natD at h; cases h
  | .bl _, _, _, _, h, _, _, _ => by unfold natD at h; cases h
  | .str _, _, _, _, h, _, _, _ => by unfold natD at h; cases h
  | .lst _, _, _, _, h, _, _, _ => by unfold natD at h; cases h
  | .dct _ _, _, _, _, h, _, _, _ => by unfold natD at h; cases h
  | .fn _, _, _, _, h, _, _, _ => by unfold natD at h; cases h
  | .scr _, _, _, _, h, _, _, _ => by unfold natD at h; cases h
theorem eq_nats : ∀ (ds es : List D) (ps qs : List PyData), natDs ds = true → natDs es = true → pys ds = some ps → pys es = some qs → (PyData.eqvAll ps qs = true ↔ ds = es)
  | [], [], ps, qs, _, _, h1, h2 => by
    cases h1
    cases h2
    rw [PyData.eqvAll]
    exact ⟨fun _ => rfl, fun _ => rfl⟩
  | [], e :: es, ps, qs, _, _, h1, h2 => by
    cases h1
    unfold pys at h2
    split at h2
    · cases h2
      rw [PyData.eqvAll]
      exact ⟨fun z => (by cases z), fun z => (by cases z)⟩
    · cases h2
  | d :: ds, [], ps, qs, _, _, h1, h2 => by
    cases h2
    unfold pys at h1
    split at h1
    · cases h1
      rw [PyData.eqvAll]
      exact ⟨fun z => (by cases z), fun z => (by cases z)⟩
    · cases h1
  | d :: ds, e :: es, ps, qs, hd, he, h1, h2 => by
    rw [natDs, Bool.and_eq_true] at hd he
    unfold pys at h1 h2
    split at h1
    · rename_i p ps' e1 e2
      cases h1
      split at h2
      · rename_i q qs' e3 e4
        cases h2
        rw [PyData.eqvAll, Bool.and_eq_true, eq_nat d e p q hd.1 he.1 e1 e3, eq_nats ds es ps' qs' hd.2 he.2 e2 e4]
        exact ⟨fun z => (by rw [z.1, z.2]), fun z => (by injection z with z1 z2; exact ⟨z1, z2⟩)⟩
      · cases h2
    · cases h1
end
theorem o_neN {k : Nat} {ds es : List D} {Q : D → Prop} (h1 : natDs ds = true) (h2 : natDs es = true) (p1 : ∀ d ∈ ds, PyOk k d) (p2 : ∀ d ∈ es, PyOk k d) (hk : k < 64) (q : ∀ b : Bool, (b = false ↔ ds = es) → Q (.bl b)) : Ok (neD (.tup ds) (.tup es)) Q := by
  obtain ⟨p, h3, h4⟩ := (PyOk.tup p1).shaped hk
  obtain ⟨r, h5, h6⟩ := (PyOk.tup p2).shaped hk
  refine ⟨.bl (!PyData.eqv p r), ?_, q _ ?_⟩
  · unfold neD
    have : scalD (.tup ds) (.tup es) = none := rfl
    rw [this]
    simp only []
    rw [h3, h5]
    simp only [h4, h6, Bool.and_self, if_true]
  · have := eq_nat (.tup ds) (.tup es) p r (by rw [natD]; exact h1) (by rw [natD]; exact h2) h3 h5
    rw [Bool.not_eq_false', this]
    exact ⟨fun z => by injection z, fun z => by rw [z]⟩
/-- xs == [], xs != [] -/
theorem o_eqL0 {k : Nat} {ds : List D} {Q : D → Prop} (h : ∀ d ∈ ds, PyOk k d) (hk : k < 64) (q : Q (.bl ds.isEmpty)) : Ok (eqD (.lst ds) (.lst [])) Q := by
  obtain ⟨xs, h1, h2, h3, h4⟩ := pys_ok h
  obtain ⟨p, h5, h6⟩ := (PyOk.lst h).shaped hk
  have e1 : D.py (.lst ds) = some (.list xs) := by unfold D.py; rw [h1]
  rw [h5] at e1
  cases e1
  refine ⟨_, ?_, q⟩
  unfold eqD
  have : scalD (.lst ds) (.lst []) = none := rfl
  rw [this]
  simp only []
  rw [h5]
  have e2 : D.py (.lst []) = some (.list []) := rfl
  rw [e2]
  simp only []
  have e3 : SeqAt.shaped (.list []) = true := rfl
  rw [h6, e3]
  have e4 : PyData.eqv (.list xs) (.list []) = ds.isEmpty := by
    cases ds with
    | nil =>
      have : xs = [] := List.length_eq_zero_iff.mp h4
      subst this
      rfl
    | cons d ds =>
      cases xs with
      | nil => cases h4
      | cons x xs => rfl
  rw [e4]
  rfl
/-- a number or None, compared -/
def optN : Option Nat → D
  | none => .non
  | some n => .int n
theorem o_eqO (a b : Option Nat) {Q : D → Prop} (q : Q (.bl (decide (a = b)))) : Ok (eqD (optN a) (optN b)) Q := by
  cases a with
  | none =>
    cases b with
    | none => exact ⟨_, rfl, q⟩
    | some n => exact ⟨_, rfl, by simpa using q⟩
  | some m =>
    cases b with
    | none => exact ⟨_, rfl, by simpa using q⟩
    | some n =>
      refine ⟨_, rfl, ?_⟩
      have e : (((m : Nat) : Int) == ((n : Nat) : Int)) = decide (some m = some n) := by
        by_cases h : m = n
        · subst h
          simp
        · have h2 : (((m : Nat) : Int) == ((n : Nat) : Int)) = false := by
            rw [beq_eq_false_iff_ne]
            omega
          rw [h2, decide_eq_false (fun z => h (by injection z))]
      rw [e]
      exact q
end Dn

namespace Gk71
open PySem PySem.Spec PyProof.Rows L2 Dn
/-- a purse: its count at most k -/
def Purse (k : Nat) (p : D) : Prop := ∃ a b c : Nat, p = .lst [.int a, .int b, .int c] ∧ a < 1000000021 ∧ c ≤ k
theorem Purse.mk {k : Nat} {A B C : Int} (hA : 0 ≤ A ∧ A < 1000000021) (hB : 0 ≤ B) (hC : 0 ≤ C ∧ C ≤ k) : Purse k (.lst [.int A, .int B, .int C]) := by
  refine ⟨A.toNat, B.toNat, C.toNat, ?_, by omega, by omega⟩
  rw [Int.toNat_of_nonneg hA.1, Int.toNat_of_nonneg hB, Int.toNat_of_nonneg hC.1]
theorem Purse.le {k m : Nat} {p : D} (h : Purse k p) (hm : k ≤ m) : Purse m p := by
  obtain ⟨a, b, c, h1, h2, h3⟩ := h
  exact ⟨a, b, c, h1, h2, by omega⟩
theorem natOf {r : Int} {n : Nat} (h : 0 ≤ r) (h2 : r < n) : ∃ x : Nat, D.int r = .int x ∧ x < n := ⟨r.toNat, by rw [Int.toNat_of_nonneg h], by omega⟩
theorem take_ok {k n : Nat} {p : D} (hp : Purse k p) (hk : k ≤ 1000000000) (h0 : 0 < n) (hn : n ≤ 1000000) : OkI (F__law_take p [.int n]) fun r p' => ∃ x : Nat, r = .int x ∧ x < n ∧ Purse (k + 1) p' := by
  obtain ⟨a, b, c, rfl, ha, hc⟩ := hp
  unfold F__law_take
  refine w_runI (e0 := [some (.lst [.int a, .int b, .int c]), some (.int n), none, none]) rfl ?_
  unfold m__law_take
  walk_at "vc"
  refine if_d (fun h => ?_) (fun h => ?_)
  · walk_at "vc"
    obtain ⟨x, h1, h2⟩ := natOf (r := (b : Int) % n) (n := n) (Int.emod_nonneg _ (by omega)) (Int.emod_lt_of_pos _ (by omega))
    exact ⟨x, h1, h2, Purse.mk (by omega) (Int.ediv_nonneg (by omega) (by omega)) (by omega)⟩
  · walk_at "vc"
    obtain ⟨x, h1, h2⟩ := natOf (r := ((a * (a % 50021 + 20011) + 60013 * (c + 1) + 5) % 1000000021 / 32 : Int) % n) (n := n) (Int.emod_nonneg _ (by omega)) (Int.emod_lt_of_pos _ (by omega))
    exact ⟨x, h1, h2, Purse.mk (by omega) (by omega) (by omega)⟩
theorem purse_ok (i : Int) : Ok (F__law_purse [.int i]) fun r => Purse 0 r := by
  unfold F__law_purse
  refine w_runB (e0 := [some (.int i), none]) rfl ?_
  unfold m__law_purse
  walk_at "st"
  walk_at "nx"
  refine w_seq (Wp.mono (P := fun fl e1 => fl = .nx ∧ ∃ j : Int, e1 = [some (.int i), some (.int j)] ∧ 0 ≤ j) ?_ ?_)
  · walk_at "vc"
    refine if_d (fun h => ?_) (fun h => ?_)
    · walk_at "vc"
      refine o_abs fun j hj => ?_
      walk_at "vc"
      exact ⟨rfl, j, rfl, hj⟩
    · walk_at "vc"
      refine if_d (fun h => ?_) (fun h => ?_)
      · walk_at "vc"
        refine o_abs fun j hj => ?_
        walk_at "vc"
        exact ⟨rfl, j, rfl, hj⟩
      · walk_at "vc"
        exact ⟨rfl, 0, rfl, Int.le_refl 0⟩
  · rintro _ _ ⟨rfl, j, rfl, hj⟩
    walk_at "vc"
    exact Purse.mk (by omega) hj (by omega)
theorem cell_ok (ns : List Int) (k : Nat) (hk : k ≤ 100) : Ok (F__law_cell [.scr ns, .int k]) fun r => ∃ i : Int, r = .int i := by
  unfold F__law_cell
  refine w_runB (e0 := [some (.scr ns), some (.int k), none, none]) rfl ?_
  unfold m__law_cell
  walk_at "vc"
  refine o_lenS ?_
  walk_at "vc"
  refine if_d (fun h => ?_) (fun h => ?_)
  · walk_at "vc"
    obtain ⟨i, hi, _⟩ := getSome (ds := ns) (k := k) (by omega)
    refine ⟨.int i, by simp [idxD, atI, ixN_nat (show k < ns.length by omega), hi], ?_⟩
    walk_at "vc"
    exact ⟨i, rfl⟩
  · have ml := mul_le (X := 100) (Y := 100) (x := (k : Int)) (y := (k : Int)) (by omega) (by omega) (by omega) (by omega)
    walk_at "vc"
    refine w_forM (fun ds i e => (∀ d ∈ ds, ∃ j : Int, d = .int j) ∧ ∃ (s : Int) (x3 : Option D), e = [some (.scr ns), some (.int k), some (.int s), x3] ∧ 0 ≤ s ∧ s < 1000000021) ?_
    walk_at "vc"
    refine ⟨_, rfl, ?_⟩
    walk_at "vc"
    refine ⟨⟨?_, _, _, rfl, by omega, by omega⟩, ?_, ?_⟩
    · intro d hd
      obtain ⟨j, _, rfl⟩ := List.mem_map.mp hd
      exact ⟨j, rfl⟩
    · rintro i d e hd ⟨hds, s, x3, rfl, hs0, hs⟩
      obtain ⟨j, rfl⟩ := hds d (List.mem_of_getElem? hd)
      walk_at "vc"
      exact ⟨rfl, hds, _, _, rfl, by omega, by omega⟩
    · rintro e ⟨hds, s, x3, rfl, hs0, hs⟩
      walk_at "vc"
      exact ⟨s, rfl⟩
end Gk71

namespace Gk71
open PySem PySem.Spec PyProof.Rows L2 Dn
theorem odd_ok {k : Nat} {p : D} (hp : Purse k p) (hk : k ≤ 1000000000) : OkI (F__law_odd p []) fun r p' => Sm 0 2 500 r ∧ Purse (k + 1) p' := by
  unfold F__law_odd
  refine w_runI (e0 := [some p, none]) rfl ?_
  unfold m__law_odd
  walk_at "vc"
  refine o_addL (Nat.le_of_ble_eq_true rfl) ?_
  walk_at "vc"
  refine (take_ok (n := 28) hp (by omega) (by omega) (by omega)).mono ?_
  rintro _ p6 ⟨y6, rfl, hy6, hp6⟩
  walk_at "vc"
  refine o_idxM hy6 fun d hd => ?_
  walk_at "vc"
  refine ⟨?_, hp6⟩
  refine ⟨?_, of_decide_eq_true (p := wt d ≤ 500) ?_⟩
  · revert d hd
    rw [← List.all_eq_true]
    decide +kernel
  · revert d hd
    rw [← List.all_eq_true (p := fun d => decide (wt d ≤ 500))]
    decide +kernel
theorem bent_ok : ∀ (f k n w m : Nat) (p d : D), Purse m p → m + 4 * f ≤ 1000000000 → k < f → n ≤ 100 → Sm n k w d → OkI (F__law_bent f p [d]) fun r p' => Sm (n + 1) (k + 4) (2 * w + 600) r ∧ Purse (m + 4 * (k + 1)) p'
  | 0, k, _, _, _, _, _, _, _, hk, _, _ => by omega
  | f + 1, k, n, w, m, p, d, hp, hm, hk, hn, ⟨hd, hw⟩ => by
    have hodd : ∀ {r : D}, Sm 0 2 500 r → Sm (n + 1) (k + 4) (2 * w + 600) r := fun h => h.mono (by omega) (by omega) (by omega)
    refine w_runI (e0 := [some p, some d, none, none]) rfl ?_
    unfold m__law_bent
    match d, hd, hw with
    | .fn _, hd, _ => cases k <;> cases hd
    | .scr _, hd, _ => cases k <;> cases hd
    | .non, hd, _ =>
      walk_at "vc"
      refine (odd_ok hp (by omega)).mono ?_
      rintro r p1 ⟨h1, hp1⟩
      walk_at "vc"
      exact ⟨hodd h1, hp1.le (by omega)⟩
    | .dct _ _, hd, _ =>
      walk_at "vc"
      refine (odd_ok hp (by omega)).mono ?_
      rintro r p1 ⟨h1, hp1⟩
      walk_at "vc"
      exact ⟨hodd h1, hp1.le (by omega)⟩
    | .lst _, hd, _ =>
      walk_at "vc"
      refine (odd_ok hp (by omega)).mono ?_
      rintro r p1 ⟨h1, hp1⟩
      walk_at "vc"
      exact ⟨hodd h1, hp1.le (by omega)⟩
    | .bl b, hd, _ =>
      walk_at "vc"
      refine (odd_ok hp (by omega)).mono ?_
      rintro r p1 ⟨h1, hp1⟩
      walk_at "vc"
      refine (take_ok (n := 3) hp1 (by omega) (by omega) (by omega)).mono ?_
      rintro _ p2 ⟨y, rfl, hy, hp2⟩
      walk_at "vc"
      refine o_idxM hy (all3 ?_ ?_ ?_)
      · walk_at "vc"
        exact ⟨⟨small_bl, Nat.zero_le _⟩, hp2.le (by omega)⟩
      · walk_at "vc"
        exact ⟨⟨small_int.mpr (by split <;> omega), by rw [wt]; omega⟩, hp2.le (by omega)⟩
      · walk_at "vc"
        exact ⟨hodd h1, hp2.le (by omega)⟩
    | .int i, hd, hw =>
      have hi := small_int.mp hd
      walk_at "vc"
      refine (odd_ok hp (by omega)).mono ?_
      rintro r p1 ⟨h1, hp1⟩
      walk_at "vc"
      refine (take_ok (n := 5) hp1 (by omega) (by omega) (by omega)).mono ?_
      rintro _ p2 ⟨y, rfl, hy, hp2⟩
      walk_at "vc"
      refine o_idxM hy (all5 ?_ ?_ ?_ ?_ ?_)
      · walk_at "vc"
        exact ⟨⟨small_int.mpr (by omega), by rw [wt]; omega⟩, hp2.le (by omega)⟩
      · walk_at "vc"
        exact ⟨⟨small_int.mpr (by omega), by rw [wt]; omega⟩, hp2.le (by omega)⟩
      · walk_at "vc"
        exact ⟨⟨small_bl, Nat.zero_le _⟩, hp2.le (by omega)⟩
      · walk_at "vc"
        exact ⟨hodd h1, hp2.le (by omega)⟩
      · walk_at "vc"
        exact ⟨⟨small_int.mpr (by omega), by rw [wt]; omega⟩, hp2.le (by omega)⟩
    | .str z, hd, hw =>
      have hi := small_str.mp hd
      walk_at "vc"
      refine o_addS (sz1 (by show z.length + 1 ≤ 1000; omega)) ?_
      walk_at "vc"
      refine o_sliS (sz1 (by omega)) ?_
      walk_at "vc"
      refine o_revS (sz1 (by omega)) ?_
      walk_at "vc"
      refine o_upS (by omega) ?_
      walk_at "vc"
      refine (odd_ok hp (by omega)).mono ?_
      rintro r p1 ⟨h1, hp1⟩
      walk_at "vc"
      refine (take_ok (n := 5) hp1 (by omega) (by omega) (by omega)).mono ?_
      rintro _ p2 ⟨y, rfl, hy, hp2⟩
      walk_at "vc"
      refine o_idxM hy (all5 ?_ ?_ ?_ ?_ ?_)
      · walk_at "vc"
        exact ⟨⟨small_str.mpr ⟨hi.1.app asc_a, by rw [len_app]; exact Nat.add_le_add_right hi.2 1⟩, by
          rw [wt, len_app]
          rw [wt] at hw
          have : (Str.ofString "a").length = 1 := rfl
          omega⟩, hp2.le (by omega)⟩
      · walk_at "vc"
        exact ⟨⟨small_str.mpr ⟨Dn.Asc.cut hi.1, by have := cutS_length z (some 1) none; omega⟩, by
          rw [wt]
          rw [wt] at hw
          have := cutS_length z (some 1) none
          omega⟩, hp2.le (by omega)⟩
      · walk_at "vc"
        exact ⟨⟨small_str.mpr ⟨hi.1.rev, by rw [len_rev]; omega⟩, by
          rw [wt, len_rev]
          rw [wt] at hw
          omega⟩, hp2.le (by omega)⟩
      · walk_at "vc"
        exact ⟨⟨small_str.mpr ⟨hi.1.upper, by rw [len_upper hi.1]; omega⟩, by
          rw [wt, len_upper hi.1]
          rw [wt] at hw
          omega⟩, hp2.le (by omega)⟩
      · walk_at "vc"
        exact ⟨hodd h1, hp2.le (by omega)⟩
    | .tup ds, hd, hw =>
      obtain ⟨k, rfl⟩ : ∃ j, k = j + 1 := by
        cases k with
        | zero => cases hd
        | succ k => exact ⟨k, rfl⟩
      obtain ⟨hl, hds⟩ := small_tup.mp hd
      have hwd : wts ds ≤ w := hw
      refine w_seq (Wp.mono (P := fun fl e1 => (fl = .nx ∧ ∃ p1 : D, e1 = [some p1, some (.tup ds), none, none] ∧ Purse (m + 1) p1) ∨ ∃ r : D, fl = .rt r ∧ GetC 0 e1 fun p1 => Sm (n + 1) (k + 1 + 4) (2 * w + 600) r ∧ Purse (m + 4 * (k + 1 + 1)) p1) ?_ ?_)
      rotate_left
      · rintro _ _ (⟨rfl, p1, rfl, hp1⟩ | ⟨r, rfl, h⟩)
        rotate_left
        · exact h
        walk_at "vc"
        refine o_listT ?_
        walk_at "vc"
        refine (odd_ok hp1 (by omega)).mono ?_
        rintro r2 p2 ⟨h2, hp2⟩
        walk_at "vc"
        refine o_addT (sz1 (by simp only [List.length_cons, List.length_nil]; omega)) ?_
        walk_at "vc"
        refine o_revT ?_
        walk_at "vc"
        refine (odd_ok hp2 (by omega)).mono ?_
        rintro r3 p3 ⟨h3, hp3⟩
        walk_at "vc"
        refine (take_ok (n := 4) hp3 (by omega) (by omega) (by omega)).mono ?_
        rintro _ p4 ⟨y, rfl, hy, hp4⟩
        walk_at "vc"
        have hp5 : Purse (m + 4 * (k + 1 + 1)) p4 := hp4.le (by omega)
        refine o_idxM hy (all4 ?_ ?_ ?_ ?_)
        · walk_at "vc"
          exact ⟨⟨small_lst.mpr ⟨by omega, fun d hd => small_mono (by omega) (by omega) (hds d hd)⟩, by rw [wt]; omega⟩, hp5⟩
        · walk_at "vc"
          refine ⟨⟨small_sub hds (by simp only [List.length_append, List.length_cons, List.length_nil]; omega) fun d hd => ?_, ?_⟩, hp5⟩
          · rcases List.mem_append.mp hd with hd | hd
            · exact .inl hd
            · rw [List.mem_singleton.mp hd]
              exact .inr (small_mono (by omega) (by omega) h2.1)
          · rw [wt, wts_app, wts, wts]
            have := h2.2
            omega
        · walk_at "vc"
          exact ⟨⟨small_sub hds (by rw [List.length_reverse]; omega) fun d hd => .inl (List.mem_reverse.mp hd), by rw [wt, wts_rev]; omega⟩, hp5⟩
        · walk_at "vc"
          exact ⟨hodd h3, hp5⟩
      · walk_at "vc"
        refine o_neT0 ?_
        walk_at "vc"
        refine if_v (fun he => ?_) (fun he => ?_)
        · walk_at "vc"
          exact .inl ⟨rfl, p, rfl, hp.le (by omega)⟩
        have hne : 0 < ds.length := by
          cases ds with
          | nil => cases he
          | cons a b => exact Nat.succ_pos _
        walk_at "vc"
        refine (take_ok (n := 5) hp (by omega) (by omega) (by omega)).mono ?_
        rintro _ p1 ⟨y, rfl, hy, hp1⟩
        walk_at "vc"
        refine if_d (fun hg => ?_) (fun hg => ?_)
        rotate_left
        · walk_at "vc"
          exact .inl ⟨rfl, p1, rfl, hp1⟩
        walk_at "vc"
        refine (take_ok hp1 (by omega) hne (by omega)).mono ?_
        rintro _ p2 ⟨at', rfl, hat, hp2⟩
        walk_at "vc"
        refine (take_ok (n := 9) hp2 (by omega) (by omega) (by omega)).mono ?_
        rintro _ p3 ⟨y3, rfl, hy3, hp3⟩
        have hp5 : Purse (m + 4 * (k + 1 + 1)) p3 := hp3.le (by omega)
        have c1 : ((at' : Int) + 1) = ((at' + 1 : Nat) : Int) := rfl
        have c2 : ((at' : Int) + 2) = ((at' + 2 : Nat) : Int) := rfl
        walk_at "vc"
        refine if_e (fun _ => ?_) (fun _ => ?_)
        · walk_at "vc"
          rw [c1, cut_take, cut_drop]
          have hz : (ds.take at' ++ ds.drop (at' + 1)).length ≤ 100 + n := by rw [List.length_append, List.length_take, List.length_drop]; omega
          refine o_addT (by rw [← List.length_append]; exact sz1 (by omega)) ?_
          walk_at "vc"
          refine .inr ⟨_, rfl, ?_⟩
          walk_at "vc"
          refine ⟨⟨small_sub hds (by omega) fun d hd => ?_, ?_⟩, hp5⟩
          · rcases List.mem_append.mp hd with hd | hd
            · exact .inl (List.mem_of_mem_take hd)
            · exact .inl (List.mem_of_mem_drop hd)
          · rw [wt, wts_app]
            have w1 := wts_cut ds at'
            have w2 := wts_cut ds (at' + 1)
            omega
        walk_at "vc"
        refine if_e (fun _ => ?_) (fun _ => ?_)
        · walk_at "vc"
          rw [c1, cut_take, cut_drop]
          have hz : (ds.take (at' + 1) ++ ds.drop at').length ≤ 100 + n + 1 := by rw [List.length_append, List.length_take, List.length_drop]; omega
          refine o_addT (by rw [← List.length_append]; exact sz1 (by omega)) ?_
          walk_at "vc"
          refine .inr ⟨_, rfl, ?_⟩
          walk_at "vc"
          refine ⟨⟨small_sub hds (by omega) fun d hd => ?_, ?_⟩, hp5⟩
          · rcases List.mem_append.mp hd with hd | hd
            · exact .inl (List.mem_of_mem_take hd)
            · exact .inl (List.mem_of_mem_drop hd)
          · rw [wt, wts_app]
            have w1 := wts_cut ds at'
            have w2 := wts_cut ds (at' + 1)
            omega
        walk_at "vc"
        refine if_e (fun _ => ?_) (fun _ => ?_)
        · walk_at "vc"
          refine o_revT ?_
          walk_at "vc"
          rw [c2, cut_take, cut_both]
          have hz : (ds.take at' ++ ((ds.drop (min at' ds.length)).take (min (at' + 2) ds.length - min at' ds.length)).reverse).length ≤ at' + 2 := by
            rw [List.length_append, List.length_take, List.length_reverse, List.length_take, List.length_drop]
            omega
          refine o_addT (by rw [← List.length_append]; exact sz1 (by omega)) ?_
          walk_at "vc"
          rw [c2, cut_drop]
          have hz2 : ((ds.take at' ++ ((ds.drop (min at' ds.length)).take (min (at' + 2) ds.length - min at' ds.length)).reverse) ++ ds.drop (at' + 2)).length ≤ 100 + n + 1 := by
            rw [List.length_append, List.length_append, List.length_take, List.length_reverse, List.length_take, List.length_drop, List.length_drop]
            omega
          refine o_addT (by rw [← List.length_append]; exact sz1 (by omega)) ?_
          walk_at "vc"
          refine .inr ⟨_, rfl, ?_⟩
          walk_at "vc"
          refine ⟨⟨small_sub hds (by omega) fun d hd => ?_, ?_⟩, hp5⟩
          · rcases List.mem_append.mp hd with hd | hd
            · rcases List.mem_append.mp hd with hd | hd
              · exact .inl (List.mem_of_mem_take hd)
              · exact .inl (List.mem_of_mem_drop (List.mem_of_mem_take (List.mem_reverse.mp hd)))
            · exact .inl (List.mem_of_mem_drop hd)
          · rw [wt, wts_app, wts_app, wts_rev]
            rw [Nat.min_eq_left (Nat.le_of_lt hat)]
            have w1 := wts_cut ds at'
            have w2 := wts_cut ds (at' + 2)
            have w3 := wts_cut (ds.drop at') (min (at' + 2) ds.length - at')
            omega
        walk_at "vc"
        obtain ⟨d0, hd0, hm0⟩ := getSome hat
        refine o_idxT hd0 ?_
        walk_at "vc"
        refine (bent_ok f k n (wt d0) (m + 1 + 1 + 1) p3 d0 hp3 (by omega) (by omega) hn ⟨hds d0 hm0, Nat.le_refl _⟩).mono ?_
        rintro r p4 ⟨hr, hp4⟩
        walk_at "vc"
        rw [cut_take]
        have hz : (ds.take at' ++ [r]).length ≤ at' + 1 := by rw [List.length_append, List.length_take]; simp only [List.length_cons, List.length_nil]; omega
        refine o_addT (by rw [← List.length_append]; exact sz1 (by omega)) ?_
        walk_at "vc"
        rw [c1, cut_drop]
        have hz2 : ((ds.take at' ++ [r]) ++ ds.drop (at' + 1)).length ≤ 100 + n + 1 := by rw [List.length_append, List.length_drop]; omega
        refine o_addT (by rw [← List.length_append]; exact sz1 (by omega)) ?_
        walk_at "vc"
        refine .inr ⟨_, rfl, ?_⟩
        walk_at "vc"
        refine ⟨⟨small_sub hds (by omega) fun d hd => ?_, ?_⟩, hp4.le (by omega)⟩
        · rcases List.mem_append.mp hd with hd | hd
          · rcases List.mem_append.mp hd with hd | hd
            · exact .inl (List.mem_of_mem_take hd)
            · rw [List.mem_singleton.mp hd]
              exact .inr hr.1
          · exact .inl (List.mem_of_mem_drop hd)
        · rw [wt, wts_app, wts_app, wts, wts]
          have w1 := wts_at hd0
          have w2 := hr.2
          omega
/-- a claim's parts: its word with so many behind it -/
def Parts (ws : List (Str × Nat)) (n k b : Nat) (ds : List D) : Prop := ∃ (w : Str) (rest : List D), ds = .str w :: rest ∧ (w, rest.length) ∈ ws ∧ ∀ d ∈ rest, Sm n k b d
def bw (b : Nat) : Nat → Nat
  | 0 => b
  | i + 1 => 2 * bw b i + 600
theorem bw_le (b : Nat) : ∀ i, b ≤ bw b i
  | 0 => Nat.le_refl _
  | i + 1 => by
    have := bw_le b i
    rw [bw]
    omega
theorem bw_mono (b : Nat) {i j : Nat} (h : i ≤ j) : bw b i ≤ bw b j := by
  induction j with
  | zero =>
    obtain rfl : i = 0 := by omega
    exact Nat.le_refl _
  | succ j ih =>
    by_cases e : i = j + 1
    · rw [e]
      exact Nat.le_refl _
    · have := ih (by omega)
      rw [bw]
      omega
theorem bw2 (b : Nat) : bw b 2 = 4 * b + 1800 := by
  show 2 * (2 * b + 600) + 600 = _
  omega
theorem Parts.len {ws : List (Str × Nat)} (hw : ∀ q ∈ ws, q.2 ≤ 10) {n k b : Nat} {ds : List D} (h : Parts ws n k b ds) : 0 < ds.length ∧ ds.length ≤ 11 := by
  obtain ⟨w, rest, rfl, h1, h2⟩ := h
  have := hw _ h1
  simp only [List.length_cons] at this ⊢
  omega
theorem spoilt_ok {ws : List (Str × Nat)} (hws : ∀ q ∈ ws, q.2 ≤ 10) {m b : Nat} {p sh : D} {ds : List D} (hp : Purse m p) (hm : m ≤ 100000000) (hs : Parts ws 0 3 b ds) (hh : Sm 0 3 b sh) :
    OkI (F__law_spoilt p [.tup ds, sh]) fun r p' => ∃ (es : List D) (sh' : D), r = .tup [.tup es, sh'] ∧ Parts ws 2 11 (4 * b + 1800) es ∧ Sm 2 11 (4 * b + 1800) sh' ∧ Purse (m + 200) p' := by
  rw [← bw2]
  unfold F__law_spoilt
  refine w_runI (e0 := [some p, some (.tup ds), some sh, none, none]) rfl ?_
  unfold m__law_spoilt
  walk_at "vc"
  refine w_forM (fun _ i e => ∃ (p : D) (es : List D) (sh : D) (x3 x4 : Option D), e = [some p, some (.tup es), some sh, x3, x4] ∧ Parts ws i (3 + 4 * i) (bw b i) es ∧ Sm i (3 + 4 * i) (bw b i) sh ∧ Purse (m + 1 + 50 * i) p) ?_
  walk_at "vc"
  refine (take_ok (n := 2) hp (by omega) (by omega) (by omega)).mono ?_
  rintro _ p1 ⟨y, rfl, hy, hp1⟩
  walk_at "vc"
  refine nat_i (by omega) fun t ht => ?_
  refine ⟨by omega, ⟨p1, ds, sh, _, _, rfl, hs, hh, hp1⟩, ?_, ?_⟩
  · rintro i d e hd ⟨p, es, sh, x3, x4, rfl, hes, hsh, hp⟩
    obtain ⟨rfl, hi⟩ := rngL_mem hd
    have hb : bw b i ≤ bw b (i + 1) := bw_mono b (Nat.le_succ i)
    walk_at "vc"
    refine (take_ok hp (by omega) (hes.len hws).1 (by have := (hes.len hws).2; omega)).mono ?_
    rintro _ p2 ⟨at', rfl, hat, hp2⟩
    walk_at "vc"
    refine if_e (fun h0 => ?_) (fun h0 => ?_)
    · walk_at "vc"
      refine (bent_ok 12 (3 + 4 * i) i _ _ p2 sh hp2 (by omega) (by omega) (by omega) hsh).mono ?_
      rintro r p3 ⟨hr, hp3⟩
      walk_at "vc"
      obtain ⟨w, rest, rfl, hw, hrest⟩ := hes
      exact ⟨rfl, _, _, _, _, _, rfl, ⟨w, rest, rfl, hw, fun d hd => (hrest d hd).mono (by omega) (by omega) hb⟩, hr.mono (by omega) (by omega) (Nat.le_refl _), hp3.le (by omega)⟩
    · obtain ⟨w, rest, rfl, hw, hrest⟩ := hes
      obtain ⟨j, rfl⟩ : ∃ j, at' = j + 1 := ⟨at' - 1, by omega⟩
      have hj : j < rest.length := by simp only [List.length_cons] at hat; omega
      obtain ⟨d0, hd0, hm0⟩ := getSome hj
      have hl3 : rest.length ≤ 10 := hws _ hw
      walk_at "vc"
      refine o_idxT (d := d0) (by rw [List.getElem?_cons_succ]; exact hd0) ?_
      walk_at "vc"
      refine (bent_ok 12 (3 + 4 * i) i _ _ p2 d0 hp2 (by omega) (by omega) (by omega) (hrest d0 hm0)).mono ?_
      rintro r p3 ⟨hr, hp3⟩
      walk_at "vc"
      rw [cut_take]
      refine o_addT (by rw [List.length_take]; simp only [List.length_cons, List.length_nil]; exact sz1 (by omega)) ?_
      walk_at "vc"
      rw [show (((j + 1 : Nat) : Int) + 1) = ((j + 1 + 1 : Nat) : Int) from rfl, cut_drop]
      refine o_addT (by rw [List.length_append, List.length_take, List.length_drop]; simp only [List.length_cons, List.length_nil]; exact sz1 (by omega)) ?_
      walk_at "vc"
      refine ⟨rfl, _, _, _, _, _, rfl, ⟨w, rest.take j ++ [r] ++ rest.drop (j + 1), rfl, ?_, ?_⟩, hsh.mono (by omega) (by omega) hb, hp3.le (by omega)⟩
      · have : (rest.take j ++ [r] ++ rest.drop (j + 1)).length = rest.length := by
          rw [List.length_append, List.length_append, List.length_take, List.length_drop]
          simp only [List.length_cons, List.length_nil]
          omega
        rw [this]
        exact hw
      · intro d hd
        rcases List.mem_append.mp hd with hd | hd
        · rcases List.mem_append.mp hd with hd | hd
          · exact (hrest d (List.mem_of_mem_take hd)).mono (by omega) (by omega) hb
          · rw [List.mem_singleton.mp hd]
            exact hr.mono (by omega) (by omega) (Nat.le_refl _)
        · exact (hrest d (List.mem_of_mem_drop hd)).mono (by omega) (by omega) hb
  · rintro e ⟨p, es, sh, x3, x4, rfl, ⟨w, rest, rfl, hw, hrest⟩, hsh, hp⟩
    rw [rngL_len] at hrest hsh hp
    have hb : bw b t ≤ bw b 2 := bw_mono b (by omega)
    walk_at "vc"
    exact ⟨_, _, rfl, ⟨w, rest, rfl, hw, fun d hd => (hrest d hd).mono (by omega) (by omega) hb⟩, hsh.mono (by omega) (by omega) hb, hp.le (by omega)⟩
end Gk71

namespace Gk71
open PySem PySem.Spec PyProof.Rows L2 Dn
theorem is_count_eq (d : D) (h : clean1 d = true) : F_is_count [d, .int 0, .non] = .ok (.bl (whole d)) := by
  cases d <;> simp [F_is_count, m_is_count, s_runB, startL, truR, isiD, isBool, Dn.isInt, vr, geD, isN, whole] <;> simp [clean1] at h
theorem whole_eq (d : D) (h : clean1 d = true) : F__law_whole [d] = .ok (.bl (whole d)) := by
  cases d <;> simp [F__law_whole, m__law_whole, s_runB, startL, truR, isiD, isBool, Dn.isInt, vr, geD, isN, whole] <;> simp [clean1] at h
/-! ### the greatest common divisor -/
theorem divisor_eq (a b : Nat) (h : b < 2 ^ 400000) : F_divisor [.int a, .int b] = .ok (.int (Nat.gcd a b)) := by
  have hw := whS_div (tst (bin2 neD (vr 1) (cst (.int 0)))) (fun a b => by simp [vr, neD, scalD, eq0]) (parS 0 1 (vr 1) (bin2 modD (vr 0) (vr 1))) (fun a b hb => by simp [vr, modD, hb]) 400000 1000000 a b h (by decide)
  simp only [F_divisor, m_divisor, s_runB, startL, s_seq, List.map, List.length, Nat.sub_self, List.replicate, List.append_nil]
  rw [hw]
  simp [vr, absD]
  omega
theorem shared_eq (a b : Nat) (h : b < 2 ^ 400000) : F__law_shared [.int a, .int b] = .ok (.int (Nat.gcd a b)) := by
  have hw := whS_div (tst (bin2 gtD (vr 1) (cst (.int 0)))) (fun a b => by
    simp [vr, gtD]
    by_cases h : b = 0
    · simp [h]
    · simp [h]
      omega) (parS 0 1 (vr 1) (bin2 modD (vr 0) (vr 1))) (fun a b hb => by simp [vr, modD, hb]) 400000 1000000 a b h (by decide)
  simp only [F__law_shared, m__law_shared, s_runB, startL, s_seq, List.map, List.length, Nat.sub_self, List.replicate, List.append_nil]
  rw [hw]
  simp [vr]
theorem lcm_step {L n m : Nat} (hL : L < 2 ^ m) (hL1 : 1 ≤ L) (hn : 1 ≤ n) (hn2 : n ≤ 240) (hm : m ≤ 900000) :
    (mulD (.int L) (.int n)).bind (fun x => fdivD x (.int (Nat.gcd L n))) = .ok (.int (Nat.lcm L n)) := by
  have h1 : (L : Nat).log2 ≤ m := by
    refine log2_le (Nat.lt_of_lt_of_le hL (Nat.pow_le_pow_right (by decide) (by omega)))
  have h2 : n.log2 ≤ 7 := log2_le (by omega)
  have hg : 0 < Nat.gcd L n := Nat.gcd_pos_of_pos_left _ hL1
  have hg2 : Nat.gcd L n ≤ 240 := Nat.le_trans (Nat.gcd_le_right _ hn) hn2
  have h3 : (Nat.gcd L n).log2 ≤ 7 := log2_le (by omega)
  have e1 : mulD (.int L) (.int n) = .ok (.int ((L : Int) * n)) := by
    rw [mulD_int, if_pos (by simp only [Int.natAbs_natCast]; omega)]
  rw [e1]
  show fdivD (.int ((L : Int) * n)) (.int (Nat.gcd L n)) = _
  rw [fdivD_int, if_pos (.inl ⟨by omega, by simp only [Int.natAbs_natCast]; omega⟩)]
  rw [Int.fdiv_eq_ediv_of_nonneg _ (by omega)]
  congr 2
theorem common_go (l : D) : ∀ (ns : List Nat) (L m : Nat) (x : Option D), (∀ n ∈ ns, 1 ≤ n ∧ n ≤ 240) → 1 ≤ L → L < 2 ^ m → m + 8 * ns.length ≤ 900000 →
    ∃ x', forS (nmG 2) (setS 1 (bin2 fdivD (bin2 mulD (vr 1) (vr 2)) (calM F_divisor [] (consA (vr 1) (consA (vr 2) nilA))))) (ns.map fun (n : Nat) => D.int n) [some l, some (.int L), x] = .ok (.nx, [some l, some (.int (ns.foldl Nat.lcm L : Nat)), x'])
  | [], L, m, x, _, _, _, _ => ⟨x, rfl⟩
  | n :: ns, L, m, x, hn, h1, h2, h3 => by
    obtain ⟨hn1, hn2⟩ := hn n (List.mem_cons_self ..)
    have hs := lcm_step h2 h1 hn1 hn2 (by omega)
    rw [List.length_cons] at h3
    have hpos : 1 ≤ Nat.lcm L n := Nat.pos_of_ne_zero (Nat.lcm_ne_zero (by omega) (by omega))
    have hle : Nat.lcm L n < 2 ^ (m + 8) := by
      have a1 : Nat.lcm L n ≤ L * n := Nat.div_le_self _ _
      have a2 : L * n < 2 ^ m * 2 ^ 8 := by
        refine Nat.lt_of_le_of_lt (Nat.mul_le_mul_left L hn2) ?_
        refine Nat.lt_of_lt_of_le (Nat.mul_lt_mul_of_pos_right h2 (by decide)) (Nat.mul_le_mul_left _ (by decide))
      rw [Nat.pow_add]
      omega
    obtain ⟨x', hx⟩ := common_go l ns (Nat.lcm L n) (m + 8) (some (.int n)) (fun k hk => hn k (List.mem_cons_of_mem _ hk)) hpos hle (by omega)
    refine ⟨x', ?_⟩
    rw [List.map_cons, List.foldl_cons, ← hx]
    refine forS_cons rfl ?_
    have hd := divisor_eq L n (Nat.lt_of_le_of_lt hn2 (Nat.lt_of_lt_of_le (show 240 < 2 ^ 8 by decide) (Nat.pow_le_pow_right (by decide) (by decide))))
    cases e1 : mulD (.int L) (.int n) with
    | ok d =>
      rw [e1] at hs
      have hs' : fdivD d (.int (Nat.gcd L n)) = .ok (.int (Nat.lcm L n)) := hs
      simp [vr, hd, e1, hs']
    | exc y z => exact absurd e1 (mulD_nx _ _ _ _)
    | bad =>
      rw [e1] at hs
      cases hs
theorem common_eq (ns : List Nat) (h : ∀ n ∈ ns, 1 ≤ n ∧ n ≤ 240) (hl : ns.length ≤ 1000) : F_common [.lst (ns.map fun (n : Nat) => D.int n)] = .ok (.int (ns.foldl Nat.lcm 1 : Nat)) := by
  obtain ⟨x', hx⟩ := common_go (.lst (ns.map fun (n : Nat) => D.int n)) ns 1 1 none h (by decide) (by decide) (by omega)
  simp only [F_common, m_common, s_runB, startL, s_seq, s_setS, s_cst, R.bind_ok, seqK_nx, s_forM, s_seqM, List.map, List.length, List.replicate]
  simp [vr]
  have hx' := hx
  simp at hx'
  rw [hx']
  simp [vr]
end Gk71

namespace Gk71
open PySem PySem.Spec PyProof.Rows L2 Dn
def rowOk : D → Bool
  | .tup [.int a, .int b, .int c, .int e] => (decide (0 ≤ a) && (decide (0 ≤ b) && (decide (0 ≤ c) && decide (0 ≤ e)))) && ((decide (0 < b) == decide (0 < e)) && decide (b ≤ 240))
  | _ => false
/-- all([is_count(part) for part in x]) -/
theorem all_count {e : Lc} {i j : Nat} {ds : List D} (hj : e[j]? = some (some (.tup ds))) (hi : i < e.length) (hc : ∀ d ∈ ds, clean1 d = true) (hz : ds.length ≤ 1000) :
    callD allD (consA (asL (lcM [i] (seqM (vr j)) (nmG i) yesT (calM F_is_count [.int 0, .non] (consA (vr i) nilA)))) nilA) e = .ok (.bl (ds.all whole), e) := by
  have h1 := lcM_map (i := i) (e := e) (el := calM F_is_count [.int 0, .non] (consA (vr i) nilA)) (F := seqM (vr j)) (ds := ds) (hh := fun d => .bl (whole d)) (by simp [vr_get _ _ _ hj]) (le_size hz) hi fun d hd => by
    have h2 : vr i (e.set i (some d)) = .ok (d, e.set i (some d)) := vr_get _ _ _ (List.getElem?_set_self hi)
    simp [h2, is_count_eq d (hc d hd)]
  simp only [s_callD, s_consA, s_asL, s_nilA]
  rw [h1]
  simp [allD, blsD_map, List.all_map, Function.comp_def]
theorem all_whole {e : Lc} {i j : Nat} {ds : List D} (hj : e[j]? = some (some (.tup ds))) (hi : i < e.length) (hc : ∀ d ∈ ds, clean1 d = true) (hz : ds.length ≤ 1000) :
    callD allD (consA (asL (lcM [i] (seqM (vr j)) (nmG i) yesT (calM F__law_whole [] (consA (vr i) nilA)))) nilA) e = .ok (.bl (ds.all whole), e) := by
  have h1 := lcM_map (i := i) (e := e) (el := calM F__law_whole [] (consA (vr i) nilA)) (F := seqM (vr j)) (ds := ds) (hh := fun d => .bl (whole d)) (by simp [vr_get _ _ _ hj]) (le_size hz) hi fun d hd => by
    have h2 : vr i (e.set i (some d)) = .ok (d, e.set i (some d)) := vr_get _ _ _ (List.getElem?_set_self hi)
    simp [h2, whole_eq d (hc d hd)]
  simp only [s_callD, s_consA, s_asL, s_nilA]
  rw [h1]
  simp [allD, blsD_map, List.all_map, Function.comp_def]
theorem rowOk_len {ds : List D} (h : ds.length ≠ 4) : rowOk (.tup ds) = false := by
  unfold rowOk
  split
  · rename_i hh
    cases hh
    exact absurd rfl h
  · rfl
theorem rowOk_not {ds : List D} (h : ds.all whole = false) : rowOk (.tup ds) = false := by
  unfold rowOk
  split
  · rename_i a b c e hh
    cases hh
    simp [whole] at h
    cases z : (decide (0 ≤ a) && (decide (0 ≤ b) && (decide (0 ≤ c) && decide (0 ≤ e)))) with
    | false => rfl
    | true =>
      simp at z
      exact absurd (h z.1 z.2.1 z.2.2.1) (by omega)
  · rfl
theorem is_row_eq (d : D) (h : clean2 d = true) : F_is_row [d] = .ok (.bl (rowOk d)) := by
  cases d with
  | tup ds =>
    simp only [clean2, Bool.and_eq_true, List.all_eq_true, decide_eq_true_eq] at h
    have ha := all_count (e := [some (.tup ds), none]) (i := 1) (j := 0) rfl (show 1 < 2 by decide) h.1 h.2
    have hlen : callD lenD (consA (vr 0) nilA) [some (.tup ds), none] = .ok (.int ds.length, [some (.tup ds), none]) := by simp [vr, lenD]
    simp only [F_is_row, m_is_row, s_runB, startL, List.map, List.length, List.replicate, List.cons_append, List.nil_append]
    by_cases h4 : ds.length = 4
    · have hl : ((ds.length : Int) == 4) = true := by rw [h4]; rfl
      cases hw : ds.all whole with
      | false =>
        rw [hw] at ha
        rw [rowOk_not hw]
        simp [-s_callD, ha, hlen, truR, isiD, isTup, vr, neD, scalD, hl]
      | true =>
        rw [hw] at ha
        rw [List.all_eq_true] at hw
        simp [-s_callD, ha, hlen, truR, isiD, isTup, vr, neD, scalD, hl]
        match ds, h4 with
        | [d1, d2, d3, d4], _ =>
          obtain ⟨a, rfl⟩ := whole_int (hw d1 (by simp))
          obtain ⟨b, rfl⟩ := whole_int (hw d2 (by simp))
          obtain ⟨c, rfl⟩ := whole_int (hw d3 (by simp))
          obtain ⟨f, rfl⟩ := whole_int (hw d4 (by simp))
          simp [whole, vr, idxD, atI, gtD, leD, eqD, scalD, rowOk, ixN]
    · have hl : ((ds.length : Int) == 4) = false := by
        simp
        omega
      rw [rowOk_len h4]
      simp [-s_callD, ha, hlen, truR, isiD, isTup, vr, neD, scalD, hl]
  | fn j => cases h
  | _ => simp [F_is_row, m_is_row, s_runB, startL, truR, isiD, isTup, vr, rowOk]
theorem law_is_row_eq (d : D) (h : clean2 d = true) : F__law_is_row [d] = .ok (.bl (rowOk d)) := by
  cases d with
  | tup ds =>
    simp only [clean2, Bool.and_eq_true, List.all_eq_true, decide_eq_true_eq] at h
    have ha := all_whole (e := [some (.tup ds), none]) (i := 1) (j := 0) rfl (show 1 < 2 by decide) h.1 h.2
    have hlen : callD lenD (consA (vr 0) nilA) [some (.tup ds), none] = .ok (.int ds.length, [some (.tup ds), none]) := by simp [vr, lenD]
    simp only [F__law_is_row, m__law_is_row, s_runB, startL, List.map, List.length, List.replicate, List.cons_append, List.nil_append]
    by_cases h4 : ds.length = 4
    · have hl : ((ds.length : Int) == 4) = true := by rw [h4]; rfl
      cases hw : ds.all whole with
      | false =>
        rw [hw] at ha
        rw [rowOk_not hw]
        simp [-s_callD, ha, hlen, truR, isiD, isTup, vr, neD, scalD, hl]
      | true =>
        rw [hw] at ha
        rw [List.all_eq_true] at hw
        simp [-s_callD, ha, hlen, truR, isiD, isTup, vr, neD, scalD, hl]
        match ds, h4 with
        | [d1, d2, d3, d4], _ =>
          obtain ⟨a, rfl⟩ := whole_int (hw d1 (by simp))
          obtain ⟨b, rfl⟩ := whole_int (hw d2 (by simp))
          obtain ⟨c, rfl⟩ := whole_int (hw d3 (by simp))
          obtain ⟨f, rfl⟩ := whole_int (hw d4 (by simp))
          simp [whole, vr, idxD, atI, gtD, leD, eqD, scalD, rowOk, ixN]
          have e1 : decide (0 < b) = !(((b : Nat) : Int) == 0) := by
            by_cases hb : b = 0
            · subst hb; rfl
            · have : decide (0 < b) = true := by simp; omega
              rw [this]
              simp [hb]
          have e2 : decide (0 < f) = !(((f : Nat) : Int) == 0) := by
            by_cases hb : f = 0
            · subst hb; rfl
            · have : decide (0 < f) = true := by simp; omega
              rw [this]
              simp [hb]
          rw [e1, e2, Bool.and_comm]
          cases (((b : Nat) : Int) == 0) <;> cases (((f : Nat) : Int) == 0) <;> rfl
    · have hl : ((ds.length : Int) == 4) = false := by
        simp
        omega
      rw [rowOk_len h4]
      simp [-s_callD, ha, hlen, truR, isiD, isTup, vr, neD, scalD, hl]
  | fn j => cases h
  | _ => simp [F__law_is_row, m__law_is_row, s_runB, startL, truR, isiD, isTup, vr, rowOk]
/-! ### two rows touch -/
def meets (a s b p : Int) : Bool :=
  if s = 0 ∧ p = 0 then a == b
  else if s = 0 then decide (b ≤ a) && ((a - b).fmod p == 0)
  else if p = 0 then decide (a ≤ b) && ((b - a).fmod s == 0)
  else (a - b).fmod (Nat.gcd s.toNat p.toNat : Nat) == 0
theorem touch_eq (a b : Int) (s p : Nat) (hp : p < 2 ^ 400000) : F_rows_touch 2 [.int a, .int s, .int b, .int p] = .ok (.bl (meets a s b p)) := by
  have hd := divisor_eq s p hp
  show runB 4 false (m_rows_touch (F_rows_touch 1)) _ = _
  by_cases h1 : s = 0
  · by_cases h2 : p = 0
    · subst h1 h2
      simp [m_rows_touch, s_runB, startL, vr, eqD, scalD, meets]
    · subst h1
      simp [m_rows_touch, s_runB, startL, vr, eqD, scalD, meets, h2, geD, modD, subD]
  · by_cases h2 : p = 0
    · subst h2
      have key : F_rows_touch 1 [.int b, .int 0, .int a, .int s] = .ok (.bl (decide (a ≤ b) && ((b - a).fmod s == 0))) := by
        show runB 4 false (m_rows_touch (F_rows_touch 0)) _ = _
        simp [m_rows_touch, s_runB, startL, vr, eqD, scalD, h1, geD, modD, subD]
      simp [m_rows_touch, s_runB, startL, vr, eqD, scalD, meets, h1, key]
    · have hg : ((Nat.gcd s p : Nat) : Int) ≠ 0 := by
        have := Nat.gcd_pos_of_pos_left p (Nat.pos_of_ne_zero h1)
        omega
      simp [m_rows_touch, s_runB, startL, vr, eqD, scalD, meets, h1, h2, hd, modD, subD, hg]
theorem law_meets_eq (a b : Int) (s p : Nat) (hp : p < 2 ^ 400000) : F__law_meets [.int a, .int s, .int b, .int p] = .ok (.bl (meets a s b p)) := by
  have hd := shared_eq s p hp
  by_cases h1 : s = 0
  · by_cases h2 : p = 0
    · subst h1 h2
      simp [F__law_meets, m__law_meets, s_runB, startL, vr, eqD, scalD, meets]
    · subst h1
      simp [F__law_meets, m__law_meets, s_runB, startL, vr, eqD, scalD, meets, h2, geD, modD, subD]
  · by_cases h2 : p = 0
    · subst h2
      simp [F__law_meets, m__law_meets, s_runB, startL, vr, eqD, scalD, meets, h1, geD, modD, subD]
    · have hg : ((Nat.gcd s p : Nat) : Int) ≠ 0 := by
        have := Nat.gcd_pos_of_pos_left p (Nat.pos_of_ne_zero h1)
        omega
      simp [F__law_meets, m__law_meets, s_runB, startL, vr, eqD, scalD, meets, h1, h2, hd, modD, subD, hg]
end Gk71

namespace Gk71
open PySem PySem.Spec PyProof.Rows L2 Dn
/-- a row as it must be -/
structure Row where
  a : Nat
  s : Nat
  b : Nat
  p : Nat
def Row.d (r : Row) : D := .tup [.int r.a, .int r.s, .int r.b, .int r.p]
theorem rowOk_ex {d : D} (h : rowOk d = true) (hc : clean2 d = true) : ∃ r : Row, d = r.d ∧ r.s ≤ 240 ∧ r.p < 2 ^ 400000 := by
  unfold rowOk at h
  split at h
  · rename_i a b c e
    simp only [Bool.and_eq_true, decide_eq_true_eq] at h
    obtain ⟨⟨h1, h2, h3, h4⟩, h5, h6⟩ := h
    refine ⟨⟨a.toNat, b.toNat, c.toNat, e.toNat⟩, ?_, by show b.toNat ≤ 240; omega, ?_⟩
    · show D.tup _ = D.tup [.int (a.toNat : Nat), .int (b.toNat : Nat), .int (c.toNat : Nat), .int (e.toNat : Nat)]
      rw [Int.toNat_of_nonneg h1, Int.toNat_of_nonneg h2, Int.toNat_of_nonneg h3, Int.toNat_of_nonneg h4]
    · simp only [clean2, Bool.and_eq_true, List.all_eq_true] at hc
      have := hc.1 (.int e) (by simp)
      have h7 := of_decide_eq_true this
      show e.toNat < 2 ^ 400000
      have h8 : e.natAbs = e.toNat := by omega
      rw [h8] at h7
      by_cases h0 : e.toNat = 0
      · rw [h0]
        exact Nat.pow_pos (by decide)
      · exact Nat.lt_of_lt_of_le ((Nat.log2_lt h0).mp h7) (Nat.pow_le_pow_right (by decide) (by omega))
  · cases h
def touch (r m : Row) : Bool := meets r.a r.s m.a m.s || meets r.b r.p m.b m.p
def rowsOf (ds : List D) : Prop := ∃ rs : List Row, ds = rs.map Row.d ∧ ∀ r ∈ rs, r.s ≤ 240 ∧ r.p < 2 ^ 400000
theorem rows_ex : ∀ {ds : List D}, ds.all rowOk = true → (∀ d ∈ ds, clean2 d = true) → ∃ rs : List Row, ds = rs.map Row.d ∧ ∀ r ∈ rs, r.s ≤ 240 ∧ r.p < 2 ^ 400000
  | [], _, _ => ⟨[], rfl, fun _ h => by cases h⟩
  | d :: ds, h, hc => by
    rw [List.all_cons, Bool.and_eq_true] at h
    obtain ⟨r, h1, h2, h3⟩ := rowOk_ex h.1 (hc d (List.mem_cons_self ..))
    obtain ⟨rs, h4, h5⟩ := rows_ex h.2 fun d' hd => hc d' (List.mem_cons_of_mem _ hd)
    exact ⟨r :: rs, by rw [h1, h4]; rfl, fun r' hr => (List.mem_cons.mp hr).elim (fun e => by rw [e]; exact ⟨h2, h3⟩) (h5 r')⟩
def lcmR (rs : List Row) : Nat := ((rs.map Row.s).filter (0 < ·)).foldl Nat.lcm 1
def pairsR : List Row → List Row → Bool
  | _, [] => false
  | pre, r :: rs => pre.any (touch r) || pairsR (pre ++ [r]) rs
/-- the pairs as the program lays them -/
def pairsD : List Row → List Row → List (Row × Row)
  | _, [] => []
  | pre, r :: rs => (pre.map fun m => (r, m)) ++ pairsD (pre ++ [r]) rs
theorem pairs_any : ∀ (rs pre : List Row), (pairsD pre rs).any (fun q => touch q.1 q.2) = pairsR pre rs
  | [], pre => rfl
  | r :: rs, pre => by
    simp only [pairsD, pairsR, List.any_append, List.any_map, pairs_any rs (pre ++ [r])]
    rfl
def pairD (q : Row × Row) : D := .tup [q.1.d, q.2.d]
theorem idxR0 (r : Row) : idxD r.d (.int 0) = .ok (.int r.a) := rfl
theorem idxR1 (r : Row) : idxD r.d (.int 1) = .ok (.int r.s) := rfl
theorem idxR2 (r : Row) : idxD r.d (.int 2) = .ok (.int r.b) := rfl
theorem idxR3 (r : Row) : idxD r.d (.int 3) = .ok (.int r.p) := rfl
/-- all([is_row(row) for row in x]) -/
theorem all_rows {e : Lc} {i j : Nat} {ds : List D} (hj : e[j]? = some (some (.tup ds))) (hi : i < e.length) (hc : ∀ d ∈ ds, clean2 d = true) (hz : ds.length ≤ 1000) :
    callD allD (consA (asL (lcM [i] (seqM (vr j)) (nmG i) yesT (calM F_is_row [] (consA (vr i) nilA)))) nilA) e = .ok (.bl (ds.all rowOk), e) := by
  have h1 := lcM_map (i := i) (e := e) (el := calM F_is_row [] (consA (vr i) nilA)) (F := seqM (vr j)) (ds := ds) (hh := fun d => .bl (rowOk d)) (by simp [vr_get _ _ _ hj]) (le_size hz) hi fun d hd => by
    have h2 : vr i (e.set i (some d)) = .ok (d, e.set i (some d)) := vr_get _ _ _ (List.getElem?_set_self hi)
    simp [h2, is_row_eq d (hc d hd)]
  simp only [s_callD, s_consA, s_asL, s_nilA]
  rw [h1]
  simp [allD, blsD_map, List.all_map, Function.comp_def]
theorem filt_rows (rs : List Row) : ((rs.map Row.d).filter fun d => match d with | .tup [_, .int s, _, _] => decide (0 < s) | _ => false).map (fun d => match d with | .tup [_, x, _, _] => x | _ => .non) = ((rs.map Row.s).filter (0 < ·)).map fun (n : Nat) => D.int n := by
  induction rs with
  | nil => rfl
  | cons r rs ih =>
    by_cases h : 0 < r.s
    · rw [List.map_cons, List.map_cons, List.filter_cons_of_pos (by simp [Row.d]; omega), List.filter_cons_of_pos (by simp; omega), List.map_cons, List.map_cons, ih]
      rfl
    · rw [List.map_cons, List.map_cons, List.filter_cons_of_neg (by simp [Row.d]; omega), List.filter_cons_of_neg (by simp; omega), ih]
theorem common_rows (rs : List Row) (h : ∀ r ∈ rs, r.s ≤ 240) (hl : rs.length ≤ 60) {x1 x2 x3 x4 : Option D} :
    calM F_common [] (consA (asL (lcM [3] (seqM (vr 0)) (nmG 3) (tst (bin2 gtD (bin2 idxD (vr 3) (cst (.int 1))) (cst (.int 0)))) (bin2 idxD (vr 3) (cst (.int 1))))) nilA) [some (.tup (rs.map Row.d)), x1, x2, x3, x4] = .ok (.int (lcmR rs), [some (.tup (rs.map Row.d)), x1, x2, x3, x4]) := by
  have h1 := lcM_filt (i := 3) (e := [some (.tup (rs.map Row.d)), x1, x2, x3, x4]) (F := seqM (vr 0)) (ds := rs.map Row.d) (t := tst (bin2 gtD (bin2 idxD (vr 3) (cst (.int 1))) (cst (.int 0)))) (el := bin2 idxD (vr 3) (cst (.int 1)))
    (p := fun d => match d with | .tup [_, .int s, _, _] => decide (0 < s) | _ => false) (hh := fun d => match d with | .tup [_, x, _, _] => x | _ => .non)
    (by simp [vr]) (by rw [List.length_map]; exact le_size (by omega)) (show 3 < 5 by decide)
    (fun d hd => by
      obtain ⟨r, _, rfl⟩ := List.mem_map.mp hd
      simp [vr, Row.d, idxD, atI, ixN, gtD])
    (fun d hd _ => by
      obtain ⟨r, _, rfl⟩ := List.mem_map.mp hd
      simp [vr, Row.d, idxD, atI, ixN])
  rw [filt_rows] at h1
  have h2 := common_eq ((rs.map Row.s).filter (0 < ·)) (fun n hn => by
    rw [List.mem_filter, List.mem_map] at hn
    obtain ⟨⟨r, hr, rfl⟩, h3⟩ := hn
    have := h r hr
    simp at h3
    omega) (Nat.le_trans (List.length_filter_le _ _) (by rw [List.length_map]; omega))
  simp only [s_calM, s_consA, s_asL, s_nilA]
  rw [h1]
  simp only [R.bind_ok, List.append_nil]
  rw [h2]
  rfl
/-- the pairs -/
theorem pairs_flat : ∀ (rs pre : List Row) (k : Nat), pre.length = k → (enumFrom k (rs.map Row.d)).flatMap (fun d => match d with
    | .tup [.int j, r] => (((pre ++ rs).map Row.d).take j.toNat).map fun m => D.tup [r, m]
    | _ => []) = (pairsD pre rs).map pairD
  | [], pre, k, _ => rfl
  | r :: rs, pre, k, hk => by
    have ih := pairs_flat rs (pre ++ [r]) (k + 1) (by rw [List.length_append, hk]; rfl)
    rw [List.append_assoc] at ih
    simp only [List.map_cons, enumFrom, List.flatMap_cons, pairsD, List.map_append, List.map_map]
    have ih2 := ih
    simp only [List.singleton_append, List.map_append, List.map_cons] at ih2
    rw [ih2]
    congr 1
    have e : ((k : Nat) : Int).toNat = k := Int.toNat_natCast k
    rw [e, List.take_append_of_le_length (by rw [List.length_map]; omega), List.take_of_length_le (by rw [List.length_map]; omega), List.map_map]
    rfl
theorem enum_mem : ∀ {ds : List D} {k : Nat} {d : D}, d ∈ enumFrom k ds → ∃ (j : Nat) (x : D), d = .tup [.int j, x]
  | [], _, _, h => by cases h
  | y :: ds, k, d, h => by
    rcases List.mem_cons.mp h with h | h
    · exact ⟨k, y, h⟩
    · exact enum_mem h
theorem pairs_eq (rs : List Row) (hl : rs.length ≤ 60) :
    lcM2 [2, 3, 4] [4] (enumM (consA (vr 0) nilA)) (tupG 2 (consG (nmG 2) (consG (nmG 3) nilG))) yesT (seqM (sliE (vr 0) noP (soP (vr 2)))) (nmG 4) yesT (tupE (consA (vr 3) (consA (vr 4) nilA))) [some (.tup (rs.map Row.d)), none, none, none, none] = .ok ((pairsD [] rs).map pairD, [some (.tup (rs.map Row.d)), none, none, none, none]) := by
  have hen : enumM (consA (vr 0) nilA) [some (.tup (rs.map Row.d)), none, none, none, none] = .ok (enumFrom 0 (rs.map Row.d), [some (.tup (rs.map Row.d)), none, none, none, none]) := by
    simp [enumM, vr]
  have hf := lcS2_flat (vs := [2, 3, 4]) (vs1 := [4]) (g := tupG 2 (consG (nmG 2) (consG (nmG 3) nilG))) (g1 := nmG 4) (f1 := seqM (sliE (vr 0) noP (soP (vr 2)))) (el := tupE (consA (vr 3) (consA (vr 4) nilA)))
    (L := fun d => match d with
      | .tup [.int j, r] => (((([] : List Row) ++ rs).map Row.d).take j.toNat).map fun m => D.tup [r, m]
      | _ => []) (e := [some (.tup (rs.map Row.d)), none, none, none, none]) (B := 60) (enumFrom 0 (rs.map Row.d)) 0 (fun d hd => by
      obtain ⟨j, x, rfl⟩ := enum_mem hd
      refine ⟨[some (.tup (rs.map Row.d)), none, some (.int j), some x, none], (rs.map Row.d).take j, [some (.tup (rs.map Row.d)), none, some (.int j), some x, none], by simp [tupG, consG, nilG], ?_, ?_, ?_, ?_, rfl⟩
      · rw [s_seqM, sli_take (i := 2) (j := 0) rfl rfl]
        rfl
      · rw [List.length_take, List.length_map]
        omega
      · dsimp only
        rw [List.length_map, List.length_take, List.length_map]
        simp
        omega
      · have h1 := lcS_map (i := 4) (e := [some (.tup (rs.map Row.d)), none, some (.int j), some x, none]) (el := tupE (consA (vr 3) (consA (vr 4) nilA))) (hh := fun m => D.tup [x, m]) ((rs.map Row.d).take j) rfl (fun m _ => by
          simp [vr, szR, sizeLine])
        have e : ((j : Nat) : Int).toNat = j := Int.toNat_natCast j
        dsimp only
        rw [e]
        exact h1) (by rw [enumFrom_len, List.length_map]; exact Nat.le_trans (show 0 + 60 * rs.length ≤ 3600 by omega) (by decide))
  rw [pairs_flat rs [] 0 rfl] at hf
  unfold lcM2
  rw [hen]
  simp only [R.bind_ok]
  have hw : wipeL [some (.tup (rs.map Row.d)), none, none, none, none] [2, 3, 4] = [some (.tup (rs.map Row.d)), none, none, none, none] := rfl
  rw [hw, hf]
  rfl
def laysOk : D → Bool
  | .tup ds => decide (ds.length ≤ 60) && ds.all rowOk && (match rowsL ds with
    | rs => decide (lcmR rs ≤ 240) && !pairsR [] rs)
  | _ => false
where
  rowsL : List D → List Row
    | [] => []
    | .tup [.int a, .int s, .int b, .int p] :: r => ⟨a.toNat, s.toNat, b.toNat, p.toNat⟩ :: rowsL r
    | _ :: r => rowsL r
theorem laysOk_tup (ds : List D) : laysOk (.tup ds) = (decide (ds.length ≤ 60) && ds.all rowOk && (decide (lcmR (laysOk.rowsL ds) ≤ 240) && !pairsR [] (laysOk.rowsL ds))) := rfl
theorem rowsL_map : ∀ rs : List Row, laysOk.rowsL (rs.map Row.d) = rs
  | [] => rfl
  | r :: rs => by
    rw [List.map_cons]
    show (⟨((r.a : Nat) : Int).toNat, ((r.s : Nat) : Int).toNat, ((r.b : Nat) : Int).toNat, ((r.p : Nat) : Int).toNat⟩ : Row) :: laysOk.rowsL (rs.map Row.d) = r :: rs
    rw [rowsL_map rs]
    rfl
theorem any_touch (rs : List Row) (h : ∀ r ∈ rs, r.s ≤ 240 ∧ r.p < 2 ^ 400000) (qs : List (Row × Row)) (hq : ∀ q ∈ qs, q.1 ∈ rs ∧ q.2 ∈ rs) (hz : qs.length ≤ sizeLine) (x : D) :
    callD anyD (consA (asL (lcM [3, 4] (seqM (vr 1)) (tupG 2 (consG (nmG 3) (consG (nmG 4) nilG))) yesT (orV (calM (F_rows_touch 2) [] (consA (bin2 idxD (vr 3) (cst (.int 0))) (consA (bin2 idxD (vr 3) (cst (.int 1))) (consA (bin2 idxD (vr 4) (cst (.int 0))) (consA (bin2 idxD (vr 4) (cst (.int 1))) nilA))))) (calM (F_rows_touch 2) [] (consA (bin2 idxD (vr 3) (cst (.int 2))) (consA (bin2 idxD (vr 3) (cst (.int 3))) (consA (bin2 idxD (vr 4) (cst (.int 2))) (consA (bin2 idxD (vr 4) (cst (.int 3))) nilA)))))))) nilA) [some x, some (.lst (qs.map pairD)), none, none, none]
      = .ok (.bl (qs.any fun q => touch q.1 q.2), [some x, some (.lst (qs.map pairD)), none, none, none]) := by
  have h1 := lcS_gen (vs := [3, 4]) (g := tupG 2 (consG (nmG 3) (consG (nmG 4) nilG))) (el := orV (calM (F_rows_touch 2) [] (consA (bin2 idxD (vr 3) (cst (.int 0))) (consA (bin2 idxD (vr 3) (cst (.int 1))) (consA (bin2 idxD (vr 4) (cst (.int 0))) (consA (bin2 idxD (vr 4) (cst (.int 1))) nilA))))) (calM (F_rows_touch 2) [] (consA (bin2 idxD (vr 3) (cst (.int 2))) (consA (bin2 idxD (vr 3) (cst (.int 3))) (consA (bin2 idxD (vr 4) (cst (.int 2))) (consA (bin2 idxD (vr 4) (cst (.int 3))) nilA))))))
    (hh := fun d => match d with
      | .tup [.tup [.int a, .int s, .int b, .int p], .tup [.int a', .int s', .int b', .int p']] => .bl (meets a s a' s' || meets b p b' p')
      | _ => .non) (e := [some x, some (.lst (qs.map pairD)), none, none, none]) (qs.map pairD) (fun d hd => by
      obtain ⟨q, hq', rfl⟩ := List.mem_map.mp hd
      obtain ⟨m1, m2⟩ := hq q hq'
      obtain ⟨r1, r2⟩ := q
      have t1 := touch_eq r1.a r2.a r1.s r2.s (Nat.lt_of_le_of_lt (h r2 m2).1 (Nat.lt_of_lt_of_le (show 240 < 2 ^ 8 by decide) (Nat.pow_le_pow_right (by decide) (by decide))))
      have t2 := touch_eq r1.b r2.b r1.p r2.p (h r2 m2).2
      refine ⟨[some x, some (.lst (qs.map pairD)), none, some r1.d, some r2.d], by simp [tupG, consG, nilG, pairD], ?_, rfl⟩
      simp [vr, idxR0, idxR1, idxR2, idxR3, t1, t2]
      cases e1 : meets r1.a r1.s r2.a r2.s <;> simp [pairD, Row.d, e1])
  have hm : (qs.map pairD).map (fun d => match d with
      | .tup [.tup [.int a, .int s, .int b, .int p], .tup [.int a', .int s', .int b', .int p']] => D.bl (meets a s a' s' || meets b p b' p')
      | _ => .non) = qs.map fun q => D.bl (touch q.1 q.2) := by
    rw [List.map_map]
    rfl
  rw [hm] at h1
  have h2 : lcM [3, 4] (seqM (vr 1)) (tupG 2 (consG (nmG 3) (consG (nmG 4) nilG))) yesT (orV (calM (F_rows_touch 2) [] (consA (bin2 idxD (vr 3) (cst (.int 0))) (consA (bin2 idxD (vr 3) (cst (.int 1))) (consA (bin2 idxD (vr 4) (cst (.int 0))) (consA (bin2 idxD (vr 4) (cst (.int 1))) nilA))))) (calM (F_rows_touch 2) [] (consA (bin2 idxD (vr 3) (cst (.int 2))) (consA (bin2 idxD (vr 3) (cst (.int 3))) (consA (bin2 idxD (vr 4) (cst (.int 2))) (consA (bin2 idxD (vr 4) (cst (.int 3))) nilA)))))) [some x, some (.lst (qs.map pairD)), none, none, none] = .ok (qs.map fun q => D.bl (touch q.1 q.2), [some x, some (.lst (qs.map pairD)), none, none, none]) := by
    unfold lcM
    have e1 : seqM (vr 1) [some x, some (.lst (qs.map pairD)), none, none, none] = .ok (qs.map pairD, [some x, some (.lst (qs.map pairD)), none, none, none]) := by simp [vr]
    rw [e1]
    simp only [R.bind_ok]
    rw [if_pos (by rw [List.length_map]; exact hz)]
    have hw : wipeL [some x, some (.lst (qs.map pairD)), none, none, none] [3, 4] = [some x, some (.lst (qs.map pairD)), none, none, none] := rfl
    rw [hw, h1]
    rfl
  simp only [s_callD, s_consA, s_asL, s_nilA]
  rw [h2]
  have h3 : blsD (qs.map fun q => D.bl (touch q.1 q.2)) = some (qs.map fun q => touch q.1 q.2) := by
    clear h1 h2 hm hz hq
    induction qs with
    | nil => rfl
    | cons q qs ih => simp [blsD, ih]
  simp [anyD, h3, List.any_map, Function.comp_def]
theorem pairsD_mem : ∀ (rs pre : List Row) (q : Row × Row), q ∈ pairsD pre rs → q.1 ∈ rs ∧ q.2 ∈ pre ++ rs
  | [], _, _, h => by cases h
  | r :: rs, pre, q, h => by
    rcases List.mem_append.mp h with h | h
    · obtain ⟨m, hm, rfl⟩ := List.mem_map.mp h
      exact ⟨List.mem_cons_self .., List.mem_append.mpr (.inl hm)⟩
    · obtain ⟨h1, h2⟩ := pairsD_mem rs (pre ++ [r]) q h
      exact ⟨List.mem_cons_of_mem _ h1, by rw [List.append_assoc] at h2; exact h2⟩
theorem pairsD_len : ∀ (rs pre : List Row), (pairsD pre rs).length ≤ rs.length * (pre.length + rs.length)
  | [], _ => by simp [pairsD]
  | r :: rs, pre => by
    have ih := pairsD_len rs (pre ++ [r])
    simp only [pairsD, List.length_append, List.length_map, List.length_cons, List.length_nil] at ih ⊢
    have : (rs.length + 1) * (pre.length + (rs.length + 1)) = rs.length * (pre.length + 1 + rs.length) + (pre.length + (rs.length + 1)) := by
      rw [Nat.add_mul, Nat.one_mul]
      congr 2
      omega
    simp only [Nat.zero_add] at ih
    omega
theorem is_laying_eq (d : D) (h : clean3 d = true) : F_is_laying [d] = .ok (.bl (laysOk d)) := by
  cases d with
  | tup ds =>
    simp only [clean3, Bool.and_eq_true, List.all_eq_true, decide_eq_true_eq] at h
    have ha := all_rows (e := [some (.tup ds), none, none, none, none]) (i := 3) (j := 0) rfl (show 3 < 5 by decide) h.1 h.2
    have hlen : callD lenD (consA (vr 0) nilA) [some (.tup ds), none, none, none, none] = .ok (.int ds.length, [some (.tup ds), none, none, none, none]) := by simp [vr, lenD]
    simp only [F_is_laying, m_is_laying, s_runB, startL, List.map, List.length, List.replicate, List.cons_append, List.nil_append]
    by_cases h60 : ds.length ≤ 60
    · have hl : decide ((60 : Int) < (ds.length : Int)) = false := by
        simp
        omega
      cases hw : ds.all rowOk with
      | false =>
        rw [hw] at ha
        simp [-s_callD, ha, hlen, truR, isiD, isTup, vr, gtD, hl, laysOk, hw]
      | true =>
        rw [hw] at ha
        obtain ⟨rs, rfl, hr⟩ := rows_ex hw h.1
        rw [List.length_map] at h60
        have hcm := common_rows rs (fun r m => (hr r m).1) h60 (x1 := none) (x2 := none) (x3 := none) (x4 := none)
        have hpr := pairs_eq rs h60
        have hat := any_touch rs hr (pairsD [] rs) (fun q hq => by
          have := pairsD_mem rs [] q hq
          exact this) (Nat.le_trans (pairsD_len rs []) (Nat.le_trans (Nat.mul_le_mul h60 (show ([] : List Row).length + rs.length ≤ 60 by simp; omega)) (by decide))) (.tup (rs.map Row.d))
        rw [pairs_any] at hat
        have h60' : decide ((rs.map Row.d).length ≤ 60) = true := by simp; omega
        by_cases hc : lcmR rs ≤ 240
        · have hc' : decide ((240 : Int) < ((lcmR rs : Nat) : Int)) = false := by
            simp
            omega
          have hspec : laysOk (.tup (rs.map Row.d)) = !pairsR [] rs := by
            rw [laysOk_tup, h60', hw, rowsL_map]
            simp [hc]
          rw [hspec]
          have hl2 : decide ((60 : Int) < (rs.length : Int)) = false := by
            simp
            omega
          simp [-s_callD, -s_calM, ha, hlen, hcm, hpr, hat, truR, isiD, isTup, vr, gtD, hl2, hc']
          try (intro _; omega)
        · have hc' : decide ((240 : Int) < ((lcmR rs : Nat) : Int)) = true := by
            simp
            omega
          have hspec : laysOk (.tup (rs.map Row.d)) = false := by
            rw [laysOk_tup, h60', hw, rowsL_map]
            simp [hc]
          rw [hspec]
          simp [-s_callD, -s_calM, ha, hlen, hcm, truR, isiD, isTup, vr, gtD, hc']
          try (intro _; omega)
    · have hl : decide ((60 : Int) < (ds.length : Int)) = true := by
        simp
        omega
      have hz : decide (ds.length ≤ 60) = false := by simp; omega
      simp [-s_callD, ha, hlen, truR, isiD, isTup, vr, gtD, hl, laysOk, hz]
  | fn j => cases h
  | _ => simp [F_is_laying, m_is_laying, s_runB, startL, truR, isiD, isTup, vr, laysOk]
end Gk71

namespace Gk71
open PySem PySem.Spec PyProof.Rows L2 Dn
def idxs : Nat → Nat → List D
  | _, 0 => []
  | k, m + 1 => .int k :: idxs (k + 1) m
theorem rngL_idx (n : Nat) : rngL 0 n = idxs 0 n := by
  have key : ∀ m k, (List.range' k m).map (fun (i : Nat) => D.int ((0 : Int) + (i : Int))) = idxs k m := fun m => by
    induction m with
    | zero => intro k; rfl
    | succ m ih =>
      intro k
      rw [List.range'_succ, List.map_cons, ih]
      show D.int (0 + (k : Int)) :: _ = D.int k :: _
      rw [Int.zero_add]
  unfold rngL
  rw [List.range_eq_range', key]
def touchB : MS := ifS (orT (tru (calM F__law_meets [] (consA (bin2 idxD (vr 3) (cst (.int 0))) (consA (bin2 idxD (vr 3) (cst (.int 1))) (consA (bin2 idxD (vr 4) (cst (.int 0))) (consA (bin2 idxD (vr 4) (cst (.int 1))) nilA)))))) (tru (calM F__law_meets [] (consA (bin2 idxD (vr 3) (cst (.int 2))) (consA (bin2 idxD (vr 3) (cst (.int 3))) (consA (bin2 idxD (vr 4) (cst (.int 2))) (consA (bin2 idxD (vr 4) (cst (.int 3))) nilA)))))))
  (retS (tupE (consA (vr 2) nilA)))
  nxS
theorem small240 {n : Nat} (h : n ≤ 240) : n < 2 ^ 400000 := Nat.lt_of_le_of_lt h (Nat.lt_of_lt_of_le (show 240 < 2 ^ 8 by decide) (Nat.pow_le_pow_right (by decide) (by decide)))
theorem fault_inner (r : Row) (t W : Option D) (k : D) : ∀ (ms : List Row) (x4 : Option D), (∀ m ∈ ms, m.s ≤ 240 ∧ m.p < 2 ^ 400000) →
    (ms.any (touch r) = true ∧ ∃ e', forS (nmG 4) touchB (ms.map Row.d) [t, W, some k, some r.d, x4] = .ok (.rt (.tup [k]), e')) ∨
      (ms.any (touch r) = false ∧ ∃ x4', forS (nmG 4) touchB (ms.map Row.d) [t, W, some k, some r.d, x4] = .ok (.nx, [t, W, some k, some r.d, x4']))
  | [], x4, _ => .inr ⟨rfl, x4, rfl⟩
  | m :: ms, x4, h => by
    obtain ⟨h1, h2⟩ := h m (List.mem_cons_self ..)
    have t1 := law_meets_eq r.a m.a r.s m.s (small240 h1)
    have t2 := law_meets_eq r.b m.b r.p m.p h2
    have hb : touchB [t, W, some k, some r.d, some m.d] = if touch r m = true then .ok (.rt (.tup [k]), [t, W, some k, some r.d, some m.d]) else .ok (.nx, [t, W, some k, some r.d, some m.d]) := by
      unfold touchB
      cases e1 : meets r.a r.s m.a m.s <;> cases e2 : meets r.b r.p m.b m.p <;> simp [vr, idxR0, idxR1, idxR2, idxR3, t1, t2, e1, e2, touch, truR, szR, sizeLine]
    cases ht : touch r m with
    | true =>
      rw [ht, if_pos rfl] at hb
      exact .inl ⟨by rw [List.any_cons, ht]; rfl, _, by rw [List.map_cons]; exact forS_rt rfl hb⟩
    | false =>
      rw [ht, if_neg Bool.false_ne_true] at hb
      rcases fault_inner r t W k ms (some m.d) fun m' hm => h m' (List.mem_cons_of_mem _ hm) with ⟨h3, e', h4⟩ | ⟨h3, x', h4⟩
      · exact .inl ⟨by rw [List.any_cons, ht, h3]; rfl, e', by rw [List.map_cons, forS_cons rfl hb, h4]⟩
      · exact .inr ⟨by rw [List.any_cons, ht, h3]; rfl, x', by rw [List.map_cons, forS_cons rfl hb, h4]⟩
def faultB : MS := seqS (setS 3 (bin2 idxD (vr 0) (vr 2)))
  (seqS (ifS (notT (tru (calM F__law_is_row [] (consA (vr 3) nilA))))
  (retS (tupE (consA (vr 2) nilA)))
  nxS)
  (seqS (setS 1 (bin2 fdivD (bin2 mulD (vr 1) (callD maxD (consA (cst (.int 1)) (consA (bin2 idxD (vr 3) (cst (.int 1))) nilA)))) (calM F__law_shared [] (consA (vr 1) (consA (callD maxD (consA (cst (.int 1)) (consA (bin2 idxD (vr 3) (cst (.int 1))) nilA))) nilA)))))
  (seqS (ifS (tst (bin2 gtD (vr 1) (cst (.int 240))))
  (retS (tupE (consA (vr 2) nilA)))
  nxS)
  (forM (seqM (sliE (vr 0) noP (soP (vr 2)))) (nmG 4) touchB))))
theorem max_eq (s : Nat) : maxD [.int 1, .int s] = .ok (.int (max 1 s : Nat)) := by
  show R.ok (D.int (if (s : Int) > 1 then (s : Int) else 1)) = _
  by_cases h : (s : Int) > 1
  · rw [if_pos h]
    have : max 1 s = s := by omega
    rw [this]
  · rw [if_neg h]
    have : max 1 s = 1 := by omega
    rw [this]
    rfl
theorem rowB_eq {ds : List D} {W x4 : Option D} {k : Nat} {d : D} {b : Bool} (hrow : F__law_is_row [d] = .ok (.bl b)) : ifS (notT (tru (calM F__law_is_row [] (consA (vr 3) nilA)))) (retS (tupE (consA (vr 2) nilA))) nxS [some (.tup ds), W, some (.int k), some d, x4] = if b = true then .ok (.nx, [some (.tup ds), W, some (.int k), some d, x4]) else .ok (.rt (.tup [.int k]), [some (.tup ds), W, some (.int k), some d, x4]) := by
  cases b <;> simp [vr, hrow, truR, szR, sizeLine]
theorem lcmB_eq {t x2 x4 : Option D} {W : Nat} {r : Row} (h1 : r.s ≤ 240) (hW : 1 ≤ W) (hW2 : W ≤ 240) : setS 1 (bin2 fdivD (bin2 mulD (vr 1) (callD maxD (consA (cst (.int 1)) (consA (bin2 idxD (vr 3) (cst (.int 1))) nilA)))) (calM F__law_shared [] (consA (vr 1) (consA (callD maxD (consA (cst (.int 1)) (consA (bin2 idxD (vr 3) (cst (.int 1))) nilA))) nilA)))) [t, some (.int W), x2, some r.d, x4] = .ok (.nx, [t, some (.int (Nat.lcm W (max 1 r.s) : Nat)), x2, some r.d, x4]) := by
  have hmx := max_eq r.s
  have hM1 : 1 ≤ max 1 r.s := Nat.le_max_left ..
  have hM2 : max 1 r.s ≤ 240 := by omega
  have hs := lcm_step (L := W) (n := max 1 r.s) (m := 8) (by omega) hW hM1 hM2 (by decide)
  have hsh := shared_eq W (max 1 r.s) (small240 hM2)
  generalize max 1 r.s = M at hmx hM1 hM2 hs hsh
  cases e1 : mulD (.int W) (.int M) with
  | ok d =>
    rw [e1] at hs
    have hs' : fdivD d (.int (Nat.gcd W M)) = .ok (.int (Nat.lcm W M)) := hs
    simp [vr, idxR1, hmx, e1, hsh, hs']
  | exc y z => exact absurd e1 (mulD_nx _ _ _ _)
  | bad =>
    rw [e1] at hs
    cases hs
theorem bigB_eq {t x3 x4 : Option D} {W k : Nat} : ifS (tst (bin2 gtD (vr 1) (cst (.int 240)))) (retS (tupE (consA (vr 2) nilA))) nxS [t, some (.int W), some (.int k), x3, x4] = if W ≤ 240 then .ok (.nx, [t, some (.int W), some (.int k), x3, x4]) else .ok (.rt (.tup [.int k]), [t, some (.int W), some (.int k), x3, x4]) := by
  by_cases h : W ≤ 240
  · have hc' : decide ((240 : Int) < ((W : Nat) : Int)) = false := by
      simp only [decide_eq_false_iff_not]
      omega
    rw [if_pos h]
    simp [vr, gtD, szR, sizeLine]
    omega
  · rw [if_neg h]
    simp [vr, gtD, szR, sizeLine]
    omega
theorem fault_step {ds : List D} {k W : Nat} {d : D} {x3 x4 : Option D} {pre : List Row} (hk : ds[k]? = some d) (hc : clean2 d = true) (hpre : ds.take k = pre.map Row.d) (hm : ∀ m ∈ pre, m.s ≤ 240 ∧ m.p < 2 ^ 400000) (hW : 1 ≤ W) (hW2 : W ≤ 240) :
    (∃ (r : Row) (x4' : Option D), rowOk d = true ∧ d = r.d ∧ r.s ≤ 240 ∧ r.p < 2 ^ 400000 ∧ Nat.lcm W (max 1 r.s) ≤ 240 ∧ pre.any (touch r) = false ∧ faultB [some (.tup ds), some (.int W), some (.int k), x3, x4] = .ok (.nx, [some (.tup ds), some (.int (Nat.lcm W (max 1 r.s) : Nat)), some (.int k), some d, x4']))
    ∨ ((rowOk d = false ∨ ∃ r : Row, d = r.d ∧ (240 < Nat.lcm W (max 1 r.s) ∨ pre.any (touch r) = true)) ∧ ∃ e', faultB [some (.tup ds), some (.int W), some (.int k), x3, x4] = .ok (.rt (.tup [.int k]), e')) := by
  have hrow := law_is_row_eq d hc
  have hix := idx_tup hk
  have st1 : setS 3 (bin2 idxD (vr 0) (vr 2)) [some (.tup ds), some (.int W), some (.int k), x3, x4] = .ok (.nx, [some (.tup ds), some (.int W), some (.int k), some d, x4]) := by simp [vr, hix]
  have st2 := rowB_eq (ds := ds) (W := some (.int W)) (x4 := x4) (k := k) hrow
  cases hw : rowOk d with
  | false =>
    rw [hw, if_neg Bool.false_ne_true] at st2
    refine .inr ⟨.inl rfl, [some (.tup ds), some (.int W), some (.int k), some d, x4], ?_⟩
    unfold faultB
    rw [s_seq, st1, seqK_nx, s_seq, st2, seqK_rt]
  | true =>
    rw [hw, if_pos rfl] at st2
    obtain ⟨r, rfl, h1, h2⟩ := rowOk_ex hw hc
    have st3 := lcmB_eq (t := some (.tup ds)) (x2 := some (.int k)) (x4 := x4) h1 hW hW2
    have st4 := bigB_eq (t := some (.tup ds)) (x3 := some r.d) (x4 := x4) (W := Nat.lcm W (max 1 r.s)) (k := k)
    by_cases hc2 : Nat.lcm W (max 1 r.s) ≤ 240
    · rw [if_pos hc2] at st4
      have hsl : seqM (sliE (vr 0) noP (soP (vr 2))) [some (.tup ds), some (.int (Nat.lcm W (max 1 r.s) : Nat)), some (.int k), some r.d, x4] = .ok (pre.map Row.d, [some (.tup ds), some (.int (Nat.lcm W (max 1 r.s) : Nat)), some (.int k), some r.d, x4]) := by
        rw [s_seqM, sli_take (i := 2) (j := 0) (k := k) rfl rfl, hpre]
        rfl
      rcases fault_inner r (some (.tup ds)) (some (.int (Nat.lcm W (max 1 r.s) : Nat))) (.int k) pre x4 hm with ⟨h3, e', h4⟩ | ⟨h3, x', h4⟩
      · refine .inr ⟨.inr ⟨r, rfl, .inr h3⟩, e', ?_⟩
        unfold faultB
        rw [s_seq, st1, seqK_nx, s_seq, st2, seqK_nx, s_seq, st3, seqK_nx, s_seq, st4, seqK_nx, s_forM, hsl]
        exact h4
      · refine .inl ⟨r, x', rfl, rfl, h1, h2, hc2, h3, ?_⟩
        unfold faultB
        rw [s_seq, st1, seqK_nx, s_seq, st2, seqK_nx, s_seq, st3, seqK_nx, s_seq, st4, seqK_nx, s_forM, hsl]
        exact h4
    · rw [if_neg hc2] at st4
      refine .inr ⟨.inr ⟨r, rfl, .inl (by omega)⟩, [some (.tup ds), some (.int (Nat.lcm W (max 1 r.s) : Nat)), some (.int k), some r.d, x4], ?_⟩
      unfold faultB
      rw [s_seq, st1, seqK_nx, s_seq, st2, seqK_nx, s_seq, st3, seqK_nx, s_seq, st4, seqK_rt]
theorem getRow {pre : List Row} {d : D} {suf : List D} : (pre.map Row.d ++ d :: suf)[pre.length]? = some d := by
  rw [List.getElem?_append_right (by rw [List.length_map]; exact Nat.le_refl _), List.length_map, Nat.sub_self]
  rfl
theorem takeRow {pre : List Row} {suf : List D} : (pre.map Row.d ++ suf).take pre.length = pre.map Row.d := by
  rw [List.take_append_of_le_length (by rw [List.length_map]; exact Nat.le_refl _), List.take_of_length_le (by rw [List.length_map]; exact Nat.le_refl _)]
/-- the least common multiple of a list and a number, from W on -/
def lcmW (W : Nat) (rs : List Row) : Nat := (rs.map fun r => max 1 r.s).foldl Nat.lcm W
theorem lcmW_dvd : ∀ (rs : List Row) (W : Nat), W ∣ lcmW W rs
  | [], W => Nat.dvd_refl W
  | r :: rs, W => Nat.dvd_trans (Nat.dvd_lcm_left W (max 1 r.s)) (lcmW_dvd rs (Nat.lcm W (max 1 r.s)))
theorem lcmW_pos : ∀ (rs : List Row) (W : Nat), 1 ≤ W → 1 ≤ lcmW W rs
  | [], W, h => h
  | r :: rs, W, h => lcmW_pos rs (Nat.lcm W (max 1 r.s)) (Nat.pos_of_ne_zero (Nat.lcm_ne_zero (by omega) (by omega)))
theorem lcmW_le {rs : List Row} {W : Nat} (h : 1 ≤ W) (h2 : lcmW W rs ≤ 240) : W ≤ 240 := Nat.le_trans (Nat.le_of_dvd (lcmW_pos rs W h) (lcmW_dvd rs W)) h2
theorem lcmW_filt : ∀ (rs : List Row) (W : Nat), lcmW W rs = ((rs.map Row.s).filter (0 < ·)).foldl Nat.lcm W
  | [], W => rfl
  | r :: rs, W => by
    by_cases h : 0 < r.s
    · have e : max 1 r.s = r.s := by omega
      rw [List.map_cons, List.filter_cons_of_pos (by simpa using h)]
      show lcmW (Nat.lcm W (max 1 r.s)) rs = _
      rw [e, lcmW_filt rs]
      rfl
    · have e : max 1 r.s = 1 := by omega
      rw [List.map_cons, List.filter_cons_of_neg (by simpa using h)]
      show lcmW (Nat.lcm W (max 1 r.s)) rs = _
      rw [e, Nat.lcm_one_right, lcmW_filt rs]
theorem fault_go : ∀ (suf : List D) (pre : List Row) (W : Nat) (x2 x3 x4 : Option D), (∀ d ∈ suf, clean2 d = true) → (∀ m ∈ pre, m.s ≤ 240 ∧ m.p < 2 ^ 400000) → 1 ≤ W → W ≤ 240 →
    (∃ (rs : List Row) (x2' x3' x4' : Option D) (W' : Nat), suf.all rowOk = true ∧ suf = rs.map Row.d ∧ lcmW W rs ≤ 240 ∧ pairsR pre rs = false ∧ forS (nmG 2) faultB (idxs pre.length suf.length) [some (.tup (pre.map Row.d ++ suf)), some (.int W), x2, x3, x4] = .ok (.nx, [some (.tup (pre.map Row.d ++ suf)), some (.int W'), x2', x3', x4']))
    ∨ ((suf.all rowOk = false ∨ ∃ rs : List Row, suf = rs.map Row.d ∧ (240 < lcmW W rs ∨ pairsR pre rs = true)) ∧ ∃ (k : D) (e' : Lc), forS (nmG 2) faultB (idxs pre.length suf.length) [some (.tup (pre.map Row.d ++ suf)), some (.int W), x2, x3, x4] = .ok (.rt (.tup [k]), e'))
  | [], pre, W, x2, x3, x4, _, _, _, hW2 => .inl ⟨[], x2, x3, x4, W, rfl, rfl, hW2, rfl, rfl⟩
  | d :: suf, pre, W, x2, x3, x4, hc, hm, hW, hW2 => by
    have hk : (pre.map Row.d ++ d :: suf)[pre.length]? = some d := getRow
    rcases fault_step (x3 := x3) (x4 := x4) hk (hc d (List.mem_cons_self ..)) takeRow hm hW hW2 with ⟨r, x4', h1, rfl, h2, h3, h4, h5, h6⟩ | ⟨h1, e', h6⟩
    · have e1 : (pre ++ [r]).map Row.d ++ suf = pre.map Row.d ++ r.d :: suf := by simp
      have e2 : (pre ++ [r]).length = pre.length + 1 := by simp
      have hpos : 1 ≤ Nat.lcm W (max 1 r.s) := Nat.pos_of_ne_zero (Nat.lcm_ne_zero (by omega) (by omega))
      have ih := fault_go suf (pre ++ [r]) (Nat.lcm W (max 1 r.s)) (some (.int pre.length)) (some r.d) x4' (fun d' hd => hc d' (List.mem_cons_of_mem _ hd)) (fun m hm' => by
        rcases List.mem_append.mp hm' with z | z
        · exact hm m z
        · rw [List.mem_singleton.mp z]
          exact ⟨h2, h3⟩) hpos h4
      rw [e1, e2] at ih
      have hs : forS (nmG 2) faultB (idxs pre.length (r.d :: suf).length) [some (.tup (pre.map Row.d ++ r.d :: suf)), some (.int W), x2, x3, x4] = forS (nmG 2) faultB (idxs (pre.length + 1) suf.length) [some (.tup (pre.map Row.d ++ r.d :: suf)), some (.int (Nat.lcm W (max 1 r.s) : Nat)), some (.int pre.length), some r.d, x4'] := forS_cons rfl h6
      rw [hs]
      rcases ih with ⟨rs, y2, y3, y4, W', g1, rfl, g3, g4, g5⟩ | ⟨g1, k, e', g2⟩
      · exact .inl ⟨r :: rs, y2, y3, y4, W', by rw [List.all_cons, h1, g1]; rfl, rfl, g3, by show (pre.any (touch r) || pairsR (pre ++ [r]) rs) = false; rw [h5, g4]; rfl, g5⟩
      · refine .inr ⟨?_, k, e', g2⟩
        rcases g1 with g1 | ⟨rs, rfl, g1⟩
        · exact .inl (by rw [List.all_cons, g1, Bool.and_false])
        · refine .inr ⟨r :: rs, rfl, ?_⟩
          rcases g1 with g1 | g1
          · exact .inl g1
          · exact .inr (by show (pre.any (touch r) || pairsR (pre ++ [r]) rs) = true; rw [g1, Bool.or_true])
    · refine .inr ⟨?_, .int pre.length, e', forS_rt rfl h6⟩
      rcases h1 with h1 | ⟨r, rfl, h1⟩
      · exact .inl (by rw [List.all_cons, h1, Bool.false_and])
      · by_cases hw : suf.all rowOk = true
        · obtain ⟨rs, rfl, _⟩ := rows_ex hw fun d' hd => hc d' (List.mem_cons_of_mem _ hd)
          refine .inr ⟨r :: rs, rfl, ?_⟩
          rcases h1 with h1 | h1
          · refine .inl (Nat.lt_of_not_le fun z => ?_)
            have hpos : 1 ≤ Nat.lcm W (max 1 r.s) := Nat.pos_of_ne_zero (Nat.lcm_ne_zero (by omega) (by omega))
            have := lcmW_le (rs := rs) hpos z
            omega
          · exact .inr (by show (pre.any (touch r) || pairsR (pre ++ [r]) rs) = true; rw [h1, Bool.true_or])
        · refine .inl ?_
          rw [List.all_cons]
          cases h : suf.all rowOk with
          | true => exact absurd h hw
          | false => rw [Bool.and_false]
def faultR : MD (List D) := rng1M (consA (callD lenD (consA (vr 0) nilA)) nilA)
def faultH : MS := ifS (orT (notT (tru (un1 (isiD isTup) (vr 0)))) (tst (bin2 gtD (callD lenD (consA (vr 0) nilA)) (cst (.int 60))))) (retS (tupE (consA (cst .non) nilA))) nxS
theorem ft_m : m__law_fault = seqS faultH (seqS (setS 1 (cst (.int 1))) (seqS (forM faultR (nmG 2) faultB) (retS (tupE nilA)))) := rfl
theorem ft_len {ds : List D} {W x2 x3 x4 : Option D} : callD lenD (consA (vr 0) nilA) [some (.tup ds), W, x2, x3, x4] = .ok (.int ds.length, [some (.tup ds), W, x2, x3, x4]) := by simp [vr, lenD]
theorem ft_rng {ds : List D} {W x2 x3 x4 : Option D} (h : ds.length ≤ 60) : faultR [some (.tup ds), W, x2, x3, x4] = .ok (idxs 0 ds.length, [some (.tup ds), W, x2, x3, x4]) := by
  unfold faultR
  rw [← rngL_idx]
  refine rng1M_ok (n := ds.length) ?_ (by omega)
  rw [s_consA, ft_len]
  rfl
theorem ft_st1 {ds : List D} {W x2 x3 x4 : Option D} (h : ds.length ≤ 60) : faultH [some (.tup ds), W, x2, x3, x4] = .ok (.nx, [some (.tup ds), W, x2, x3, x4]) := by
  unfold faultH
  simp [-s_callD, ft_len, truR, isiD, isTup, vr, gtD]
  omega
theorem ft_big {ds : List D} {W x2 x3 x4 : Option D} (h : ¬ ds.length ≤ 60) : faultH [some (.tup ds), W, x2, x3, x4] = .ok (.rt (.tup [.non]), [some (.tup ds), W, x2, x3, x4]) := by
  unfold faultH
  simp [-s_callD, ft_len, truR, isiD, isTup, vr, gtD, szR, sizeLine]
  omega
theorem fault_tail {ds : List D} (h60 : ds.length ≤ 60) : F__law_fault [.tup ds] = outB false (seqK (forS (nmG 2) faultB (idxs 0 ds.length) [some (.tup ds), some (.int 1), none, none, none]) (retS (tupE nilA))) := by
  unfold F__law_fault
  rw [s_runB, ft_m]
  show outB false (seqS faultH _ [some (.tup ds), none, none, none, none]) = _
  rw [s_seq, ft_st1 h60, seqK_nx, s_seq]
  show outB false (seqK (.ok (.nx, [some (.tup ds), some (.int 1), none, none, none])) _) = _
  rw [seqK_nx, s_seq, s_forM, ft_rng h60, R.bind_ok]
theorem fault_tup (ds : List D) (h : ∀ d ∈ ds, clean2 d = true) : ∃ r : List D, F__law_fault [.tup ds] = .ok (.tup r) ∧ r.isEmpty = laysOk (.tup ds) := by
  by_cases h60 : ds.length ≤ 60
  · have key := fault_go ds [] 1 none none none h (fun _ z => by cases z) (by decide) (by decide)
    simp only [List.map_nil, List.nil_append, List.length_nil] at key
    rw [show (((1 : Nat)) : Int) = 1 from rfl] at key
    have hd60 : decide (ds.length ≤ 60) = true := decide_eq_true h60
    rcases key with ⟨rs, y2, y3, y4, W', g1, rfl, g3, g4, g5⟩ | ⟨g1, k, e', g5⟩
    · refine ⟨[], ?_, ?_⟩
      · rw [fault_tail h60, g5, seqK_nx]
        rfl
      · rw [laysOk_tup, hd60, g1, rowsL_map, g4]
        have : lcmR rs ≤ 240 := by
          rw [lcmW_filt] at g3
          exact g3
        rw [decide_eq_true this]
        rfl
    · refine ⟨[k], ?_, ?_⟩
      · rw [fault_tail h60, g5, seqK_rt, outB_rt]
      · rw [laysOk_tup, hd60]
        rcases g1 with g1 | ⟨rs, rfl, g1⟩
        · rw [g1]
          rfl
        · rw [rowsL_map]
          rcases g1 with g1 | g1
          · have : ¬ lcmR rs ≤ 240 := by
              rw [lcmW_filt] at g1
              exact Nat.not_le.mpr g1
            rw [decide_eq_false this]
            cases (rs.map Row.d).all rowOk <;> rfl
          · rw [g1]
            cases (rs.map Row.d).all rowOk <;> cases decide (lcmR rs ≤ 240) <;> rfl
  · have hz : decide (ds.length ≤ 60) = false := by simp; omega
    refine ⟨[.non], ?_, by rw [laysOk_tup, hz]; rfl⟩
    unfold F__law_fault
    rw [s_runB, ft_m]
    show outB false (seqS faultH _ [some (.tup ds), none, none, none, none]) = _
    rw [s_seq, ft_big h60, seqK_rt, outB_rt]
theorem law_fault_eq (d : D) (h : clean3 d = true) : ∃ r : List D, F__law_fault [d] = .ok (.tup r) ∧ r.isEmpty = laysOk d := by
  cases d with
  | tup ds =>
    simp only [clean3, Bool.and_eq_true, List.all_eq_true, decide_eq_true_eq] at h
    exact fault_tup ds h.1
  | fn j => cases h
  | _ => exact ⟨[.non], by unfold F__law_fault; rw [s_runB, ft_m]; simp [faultH, startL, truR, isiD, isTup, vr, szR, sizeLine], rfl⟩
end Gk71

namespace Gk71
open PySem PySem.Spec PyProof.Rows L2 Dn
/-- a class of numbers -/
def Cls (d : D) : Prop := ∃ r s : Int, d = .tup [.int r, .int s] ∧ 0 ≤ r ∧ r < s ∧ s ≤ 24
theorem classes_ok {k n : Nat} {p : D} (hp : Purse k p) (hk : k + 2 * n ≤ 1000000000) (hn : n ≤ 400) : OkI (F__law_classes p [.int n]) fun r p' => ∃ ds : List D, r = .lst ds ∧ (∀ d ∈ ds, Cls d) ∧ 1 ≤ ds.length ∧ ds.length ≤ 1 + 2 * n ∧ Purse (k + 2 * n) p' := by
  unfold F__law_classes
  refine w_runI (e0 := [some p, some (.int n), none, none, none, none, none, none, none, none]) rfl ?_
  unfold m__law_classes
  walk_at "vc"
  refine w_forM (fun _ i e => ∃ (p : D) (fs : List D) (x3 x4 x5 x6 x7 x8 x9 : Option D), e = [some p, some (.int n), some (.lst fs), x3, x4, x5, x6, x7, x8, x9] ∧ Purse (k + 2 * i) p ∧ (∀ d ∈ fs, Cls d) ∧ 1 ≤ fs.length ∧ fs.length ≤ 1 + 2 * i) ?_
  walk_at "vc"
  refine ⟨by omega, ?_, ?_, ?_⟩
  · exact ⟨p, [.tup [.int 0, .int 1]], _, _, _, _, _, _, _, rfl, hp, fun d hd => by rw [List.mem_singleton.mp hd]; exact ⟨0, 1, rfl, by decide, by decide, by decide⟩, Nat.le_refl _, Nat.le_refl _⟩
  · rintro i d e hd ⟨p, fs, x3, x4, x5, x6, x7, x8, x9, rfl, hp, hf, h1, h2⟩
    obtain ⟨rfl, hi⟩ := rngL_mem hd
    walk_at "vc"
    refine (take_ok hp (by omega) (by omega) (by omega)).mono ?_
    rintro _ p1 ⟨at', rfl, hat, hp1⟩
    walk_at "vc"
    refine (take_ok (n := 2) hp1 (by omega) (by omega) (by omega)).mono ?_
    rintro _ p2 ⟨y, rfl, hy, hp2⟩
    walk_at "vc"
    obtain ⟨d0, hd0, hm0⟩ := getSome hat
    refine o_idxL hd0 ?_
    obtain ⟨r, s, rfl, hr, hrs, hs⟩ := hf d0 hm0
    walk_at "vc"
    have hy2 : (y : Int) = 0 ∨ (y : Int) = 1 := by omega
    have hc : s * (2 + (y : Int)) ≥ 1 := Int.mul_pos (by omega) (by omega)
    refine o_modE hc ?_
    walk_at "vc"
    refine if_e (fun h => ?_) (fun h => ?_)
    · have hle : s * (2 + (y : Int)) ≤ 24 := Int.le_of_dvd (by decide) (Int.dvd_of_emod_eq_zero h)
      walk_at "vc"
      refine w_lcM (fun _ _ d => Cls d) (Nat.le_of_ble_eq_true rfl) ?_
      walk_at "vc"
      refine nat_i (by omega) fun c hcc => ?_
      refine ⟨by omega, rfl, by rw [rngL_len]; exact le_size (by omega), ?_, ?_⟩
      · intro d hd
        obtain ⟨j, hj⟩ := List.getElem?_of_mem hd
        obtain ⟨rfl, hj2⟩ := rngL_mem hj
        walk_at "vc"
        have h3 : s * ((j : Int) + 1) ≤ s * (2 + (y : Int)) := Int.mul_le_mul_of_nonneg_left (by omega) (by omega)
        have h4 : 0 ≤ s * (j : Int) := Int.mul_nonneg (by omega) (by omega)
        rw [Int.mul_add] at h3
        exact ⟨rfl, _, _, rfl, by omega, by omega, by omega⟩
      · intro rs hl hrs'
        walk_at "vc"
        rw [cut_take]
        rw [show ((at' : Int) + 1) = ((at' + 1 : Nat) : Int) from rfl, cut_drop]
        refine o_addL (by rw [List.length_take, List.length_drop]; exact le_size (by omega)) ?_
        walk_at "vc"
        rw [rngL_len] at hl
        refine ⟨by rw [List.length_append, List.length_take, List.length_drop, hl]; exact le_size (by omega), rfl, ?_⟩
        refine ⟨_, _, _, _, _, _, _, _, _, rfl, hp2.le (by omega), ?_, ?_, ?_⟩
        · intro d hd
          rcases List.mem_append.mp hd with hd | hd
          · rcases List.mem_append.mp hd with hd | hd
            · exact hf d (List.mem_of_mem_take hd)
            · exact hf d (List.mem_of_mem_drop hd)
          · obtain ⟨j, hj⟩ := List.getElem?_of_mem hd
            have hjl := (List.getElem?_eq_some_iff.mp hj).1
            obtain ⟨x, hx, _⟩ := getSome (ds := rngL 0 c) (k := j) (by rw [rngL_len]; omega)
            exact hrs' j x d hx hj
        · rw [List.length_append, hl]
          omega
        · rw [List.length_append, List.length_append, List.length_take, List.length_drop, hl]
          omega
    · walk_at "vc"
      exact ⟨rfl, _, _, _, _, _, _, _, _, _, rfl, hp2.le (by omega), hf, h1, by omega⟩
  · rintro e ⟨p, fs, x3, x4, x5, x6, x7, x8, x9, rfl, hp, hf, h1, h2⟩
    rw [rngL_len] at hp h2
    walk_at "vc"
    exact ⟨fs, rfl, hf, h1, h2, hp⟩
end Gk71

namespace Gk71
open PySem PySem.Spec PyProof.Rows L2 Dn
/-- a row such as the law makes -/
def RowS (d : D) : Prop := ∃ a s b p : Int, d = .tup [.int a, .int s, .int b, .int p] ∧ 0 ≤ a ∧ a ≤ 1000 ∧ 0 ≤ s ∧ s ≤ 24 ∧ 0 ≤ b ∧ b ≤ 1000000000000000000000000000000000 ∧ 0 ≤ p ∧ p ≤ 10000000000000000000000
theorem laying_ok {k : Nat} {p : D} {g : Bool} (hp : Purse k p) (hk : k ≤ 100000000) : OkI (F__law_laying p [.bl g]) fun r p' => ∃ ds : List D, r = .tup ds ∧ (∀ d ∈ ds, RowS d) ∧ ds.length ≤ 18 ∧ Purse (k + 200) p' := by
  unfold F__law_laying
  refine w_runI (e0 := [some p, some (.bl g), none, none, none, none, none, none, none, none, none, none, none, none, none]) rfl ?_
  unfold m__law_laying
  walk_at "st"
  refine (take_ok (n := 5) hp (by omega) (by omega) (by omega)).mono ?_
  rintro _ p1 ⟨n1, rfl, hn1, hp1⟩
  walk_at "st"
  refine (classes_ok hp1 (by omega) (by omega)).mono ?_
  rintro _ p2 ⟨nums, rfl, hnums, _, hln, hp2⟩
  walk_at "st"
  refine (take_ok (n := 5) hp2 (by omega) (by omega) (by omega)).mono ?_
  rintro _ p3 ⟨n2, rfl, hn2, hp3⟩
  walk_at "st"
  refine (classes_ok hp3 (by omega) (by omega)).mono ?_
  rintro _ p4 ⟨rooms, rfl, hrooms, _, hlr, hp4⟩
  walk_at "st"
  walk_at "nx"
  have hlift : Wp (parS1 4 5 (szA nilA) (bin2 idxD (lstE (consA (cst (.int 0)) (consA (bin2 powD (cst (.int 10)) (cst (.int 30))) nilA))) (callD intD (consA (andV (vr 1) (bin2 eqD (calI F__law_take 0 (consA (cst (.int 3)) nilA)) (cst (.int 0)))) nilA)))) [some p4, some (.bl g), some (.lst nums), some (.lst rooms), none, none, none, none, none, none, none, none, none, none, none] fun fl e1 => fl = .nx ∧ ∃ (p5 : D) (L : Int), e1 = [some p5, some (.bl g), some (.lst nums), some (.lst rooms), some (.lst []), some (.int L), none, none, none, none, none, none, none, none, none] ∧ Purse (k + 30) p5 ∧ 0 ≤ L ∧ L ≤ 1000000000000000000000000000000 := by
    walk_at "st"
    refine if_v (fun hg => ?_) (fun hg => ?_)
    · walk_at "st"
      refine (take_ok (n := 3) hp4 (by omega) (by omega) (by omega)).mono ?_
      rintro _ p5 ⟨n2, rfl, hn2, hp5⟩
      walk_at "st"
      refine idx2 (fun _ => ?_) (fun _ => ?_)
      · exact ⟨rfl, _, _, rfl, hp5.le (by omega), by decide, by decide⟩
      · exact ⟨rfl, _, _, rfl, hp5.le (by omega), by decide, by decide⟩
    · walk_at "st"
      exact ⟨rfl, _, _, rfl, hp4.le (by omega), by decide, by decide⟩
  refine w_seq (hlift.mono ?_)
  rintro _ _ ⟨rfl, p5, L, rfl, hp5, hL⟩
  walk_at "nx"
  walk_at "st"
  refine w_forM (fun _ i e => ∃ (p : D) (rooms rows : List D) (x6 x7 x8 x9 x10 x11 x12 : Option D), e = [some p, some (.bl g), some (.lst nums), some (.lst rooms), some (.lst rows), some (.int L), x6, x7, x8, x9, x10, x11, x12, none, none] ∧ Purse (k + 30 + 8 * i) p ∧ (∀ d ∈ rooms, Cls d) ∧ (∀ d ∈ rows, RowS d) ∧ rows.length ≤ 2 * i ∧ rooms.length ≤ 9) ?_
  walk_at "vc"
  refine ⟨⟨_, rooms, [], _, _, _, _, _, _, _, rfl, hp5, hrooms, (fun _ z => by cases z), Nat.le_refl _, by omega⟩, ?_, ?_⟩
  · rintro i d e hd ⟨p, rooms, rows, x6, x7, x8, x9, x10, x11, x12, rfl, hp, hrooms, hrows, hl, hr9⟩
    have hi : i < nums.length := (List.getElem?_eq_some_iff.mp hd).1
    obtain ⟨r, s, rfl, hr, hrs, hs⟩ := hnums d (List.mem_of_getElem? hd)
    walk_at "vc"
    refine o_neL0 (k := 1) (fun d hd => ?_) (by decide) ?_
    · obtain ⟨r, s, rfl, _⟩ := hrooms d hd
      exact PyOk.tup fun d hd => by
        rcases List.mem_cons.mp hd with rfl | hd
        · exact .int
        · rw [List.mem_singleton.mp hd]
          exact .int
    walk_at "vc"
    refine if_v (fun he => ?_) (fun he => ?_)
    · walk_at "vc"
      exact ⟨rfl, _, _, _, _, _, _, _, _, _, _, rfl, hp.le (by omega), hrooms, hrows, by omega, by omega⟩
    have hrl : 0 < rooms.length := by
      cases rooms with
      | nil => cases he
      | cons a b => exact Nat.succ_pos _
    walk_at "vc"
    refine (take_ok (n := 6) hp (by omega) (by omega) (by omega)).mono ?_
    rintro _ p1 ⟨y1, rfl, hy1, hp1⟩
    walk_at "vc"
    refine if_d (fun hg1 => ?_) (fun hg1 => ?_)
    rotate_left
    · walk_at "vc"
      exact ⟨rfl, _, _, _, _, _, _, _, _, _, _, rfl, hp1.le (by omega), hrooms, hrows, by omega, by omega⟩
    walk_at "vc"
    refine (take_ok hp1 (by omega) hrl (by omega)).mono ?_
    rintro _ p2 ⟨at', rfl, hat, hp2⟩
    walk_at "vc"
    obtain ⟨d0, hd0, hm0⟩ := getSome hat
    refine ⟨d0, hd0, by omega, ?_⟩
    obtain ⟨b, q, rfl, hb, hbq, hq⟩ := hrooms d0 hm0
    have hrooms2 : ∀ d ∈ rooms.eraseIdx at', Cls d := fun d hd => hrooms d (List.mem_of_mem_eraseIdx hd)
    walk_at "vc"
    have hre : (rooms.eraseIdx at').length ≤ 9 := Nat.le_trans (List.length_eraseIdx_le ..) hr9
    generalize rooms.eraseIdx at' = rooms2 at hrooms2 hre ⊢
    refine (take_ok (n := 3) hp2 (by omega) (by omega) (by omega)).mono ?_
    rintro _ p3 ⟨late, rfl, hlate, hp3⟩
    walk_at "vc"
    refine (take_ok (n := 3) hp3 (by omega) (by omega) (by omega)).mono ?_
    rintro _ p4 ⟨high, rfl, hhigh, hp4⟩
    walk_at "st"
    walk_at "nx"
    have hwide : Wp (setS 12 (bin2 idxD (lstE (consA (cst (.int 1)) (consA (bin2 powD (cst (.int 10)) (cst (.int 20))) nilA))) (callD intD (consA (andV (vr 1) (bin2 eqD (calI F__law_take 0 (consA (cst (.int 4)) nilA)) (cst (.int 0)))) nilA)))) [some p4, some (.bl g), some (.lst nums), some (.lst rooms2), some (.lst rows), some (.int L), some (.int r), some (.int s), some (.int b), some (.int q), some (.int late), some (.int high), x12, none, none] fun fl e1 => fl = .nx ∧ ∃ (p5 : D) (W : Int), e1 = [some p5, some (.bl g), some (.lst nums), some (.lst rooms2), some (.lst rows), some (.int L), some (.int r), some (.int s), some (.int b), some (.int q), some (.int late), some (.int high), some (.int W), none, none] ∧ Purse (k + 30 + 8 * i + 5) p5 ∧ 0 ≤ W ∧ W ≤ 100000000000000000000 := by
      walk_at "st"
      refine if_v (fun hg => ?_) (fun hg => ?_)
      · walk_at "st"
        refine (take_ok (n := 4) hp4 (by omega) (by omega) (by omega)).mono ?_
        rintro _ p5 ⟨n2, rfl, hn2, hp5⟩
        walk_at "st"
        refine idx2 (fun _ => ?_) (fun _ => ?_)
        · exact ⟨rfl, _, _, rfl, hp5.le (by omega), by decide, by decide⟩
        · exact ⟨rfl, _, _, rfl, hp5.le (by omega), by decide, by decide⟩
      · walk_at "st"
        exact ⟨rfl, _, _, rfl, hp4.le (by omega), by decide, by decide⟩
    refine w_seq (hwide.mono ?_)
    rintro _ _ ⟨rfl, p5, W, rfl, hp5, hW⟩
    walk_at "nx"
    have ml1 := mul_le (X := 24) (Y := 2) (x := s) (y := (late : Int)) (by omega) hs (by omega) (by omega)
    have ml2 := mul_le (X := 24) (Y := 1000000000000000000000000000002) (x := q) (y := (high : Int) + L) (by omega) hq (by omega) (by omega)
    have ml3 := mul_le (X := 24) (Y := 100000000000000000000) (x := q) (y := W) (by omega) hq (by omega) (by omega)
    have hrow : RowS (.tup [.int (r + s * late), .int s, .int (b + q * (high + L)), .int (q * W)]) := ⟨_, _, _, _, rfl, by omega, by omega, by omega, by omega, by omega, by omega, by omega, by omega⟩
    walk_at "vc"
    refine ⟨lt_size (by omega), ?_⟩
    walk_at "vc"
    have hrows2 := app_ok hrows hrow
    have hlen2 : (rows ++ [D.tup [.int (r + s * late), .int s, .int (b + q * (high + L)), .int (q * W)]]).length ≤ 2 * i + 1 := by rw [List.length_append]; exact Nat.add_le_add_right hl 1
    generalize rows ++ [D.tup [.int (r + s * late), .int s, .int (b + q * (high + L)), .int (q * W)]] = rows2 at hrows2 hlen2 ⊢
    refine if_d (fun hl1 => ?_) (fun hl1 => ?_)
    rotate_left
    · walk_at "vc"
      exact ⟨rfl, _, _, _, _, _, _, _, _, _, _, rfl, hp5.le (by omega), hrooms2, hrows2, by omega, by omega⟩
    walk_at "vc"
    refine if_d (fun hl2 => ?_) (fun hl2 => ?_)
    rotate_left
    · walk_at "vc"
      exact ⟨rfl, _, _, _, _, _, _, _, _, _, _, rfl, hp5.le (by omega), hrooms2, hrows2, by omega, by omega⟩
    walk_at "vc"
    refine (take_ok (n := 2) hp5 (by omega) (by omega) (by omega)).mono ?_
    rintro _ p6 ⟨y6, rfl, hy6, hp6⟩
    walk_at "vc"
    refine if_e (fun hl3 => ?_) (fun hl3 => ?_)
    rotate_left
    · walk_at "vc"
      exact ⟨rfl, _, _, _, _, _, _, _, _, _, _, rfl, hp6.le (by omega), hrooms2, hrows2, by omega, by omega⟩
    walk_at "vc"
    refine (take_ok (n := high) hp6 (by omega) (by omega) (by omega)).mono ?_
    rintro _ p7 ⟨y7, rfl, hy7, hp7⟩
    have ml4 := mul_le (X := 24) (Y := 1) (x := s) (y := (late : Int) - 1) (by omega) hs (by omega) (by omega)
    have ml5 := mul_le (X := 24) (Y := 2) (x := q) (y := (high : Int) - 1 - y7) (by omega) hq (by omega) (by omega)
    have hrow3 : RowS (.tup [.int (r + s * (late - 1)), .int 0, .int (b + q * (high - 1 - y7)), .int 0]) := ⟨_, _, _, _, rfl, by omega, by omega, by omega, by omega, by omega, by omega, by omega, by omega⟩
    walk_at "vc"
    refine ⟨lt_size (by omega), rfl, _, _, _, _, _, _, _, _, _, _, rfl, hp7.le (by omega), hrooms2, app_ok hrows2 hrow3, by rw [List.length_append]; simp only [List.length_cons, List.length_nil]; omega, by omega⟩
  · rintro e ⟨p, rooms, rows, x6, x7, x8, x9, x10, x11, x12, rfl, hp, hrooms, hrows, hl, hr9⟩
    walk_at "vc"
    refine w_forM (fun _ i e => ∃ (p : D) (fs : List D) (x14 : Option D), e = [some p, some (.bl g), some (.lst nums), some (.lst rooms), some (.lst rows), some (.int L), x6, x7, x8, x9, x10, x11, x12, some (.lst fs), x14] ∧ Purse (k + 30 + 8 * nums.length + i) p ∧ (∀ d ∈ fs, RowS d) ∧ fs.length ≤ i) ?_
    walk_at "vc"
    refine ⟨⟨_, [], _, rfl, hp, (fun _ z => by cases z), Nat.le_refl _⟩, ?_, ?_⟩
    · rintro i d e hd ⟨p, fs, x14, rfl, hp, hfs, hlf⟩
      have hi : i < rows.length := (List.getElem?_eq_some_iff.mp hd).1
      have hrow := hrows d (List.mem_of_getElem? hd)
      walk_at "vc"
      refine (take_ok (n := fs.length + 1) hp (by omega) (by omega) (by omega)).mono ?_
      rintro _ p6 ⟨y6, rfl, hy6, hp6⟩
      walk_at "vc"
      refine ⟨by omega, lt_size (by omega), rfl, _, _, _, rfl, hp6, ?_, ?_⟩
      · intro x hx
        rcases List.mem_append.mp hx with hx | hx
        · rcases List.mem_append.mp hx with hx | hx
          · exact hfs x (List.mem_of_mem_take hx)
          · rw [List.mem_singleton.mp hx]
            exact hrow
        · exact hfs x (List.mem_of_mem_drop hx)
      · rw [List.length_append, List.length_append, List.length_take, List.length_drop]
        simp only [List.length_cons, List.length_nil]
        omega
    · rintro e ⟨p, fs, x14, rfl, hp, hfs, hlf⟩
      walk_at "vc"
      exact ⟨fs, rfl, hfs, by omega, hp.le (by omega)⟩
end Gk71

namespace Gk71
open PySem PySem.Spec PyProof.Rows L2 Dn
/-! ### the room of a number -/
def room1 (r : Row) (x : Nat) : Option Nat := if r.s = 0 ∧ r.a = x then some r.b else if 0 < r.s ∧ r.a ≤ x ∧ (x - r.a) % r.s = 0 then some (r.b + r.p * ((x - r.a) / r.s)) else none
def roomR : List Row → Nat → Option Nat
  | [], _ => none
  | r :: rs, x => match room1 r x with
    | some v => some v
    | none => roomR rs x
def RowB (r : Row) : Prop := r.s ≤ 240 ∧ r.a < 2 ^ 200 ∧ r.b < 2 ^ 200 ∧ r.p < 2 ^ 200
theorem roomR_none {rs : List Row} {x : Nat} (h : ∀ r ∈ rs, room1 r x = none) : roomR rs x = none := by
  induction rs with
  | nil => rfl
  | cons r rs ih =>
    unfold roomR
    rw [h r (List.mem_cons_self ..)]
    exact ih fun q hq => h q (List.mem_cons_of_mem _ hq)
theorem roomR_some {x v : Nat} : ∀ {rs : List Row} {i : Nat} {r : Row}, rs[i]? = some r → (∀ j q, j < i → rs[j]? = some q → room1 q x = none) → room1 r x = some v → roomR rs x = some v
  | [], _, _, h, _, _ => by simp at h
  | r0 :: rs, 0, r, h, _, hv => by
    simp at h
    subst h
    unfold roomR
    rw [hv]
  | r0 :: rs, i + 1, r, h, hn, hv => by
    unfold roomR
    rw [hn 0 r0 (Nat.succ_pos _) rfl]
    exact roomR_some (i := i) (by simpa using h) (fun j q hj hq => hn (j + 1) q (Nat.succ_lt_succ hj) (by simpa using hq)) hv
theorem log_lt {n k : Nat} (h : n < 2 ^ k) : n.log2 ≤ k := log2_le (Nat.lt_of_lt_of_le h (Nat.pow_le_pow_right (by decide) (by omega)))
theorem sub_nat {x a : Nat} (h : a ≤ x) : (x : Int) - (a : Int) = ((x - a : Nat) : Int) := by omega
theorem rowGet {rs : List Row} {i : Nat} {d : D} (h : (rs.map Row.d)[i]? = some d) : ∃ r, rs[i]? = some r ∧ d = r.d := by
  rw [List.getElem?_map] at h
  cases e : rs[i]? with
  | none => rw [e] at h; cases h
  | some r => rw [e] at h; cases h; exact ⟨r, rfl, rfl⟩
theorem room_at_eq (rs : List Row) (x : Nat) (h : ∀ r ∈ rs, RowB r) (hx : x < 2 ^ 300) : F_room_at [.tup (rs.map Row.d), .int x] = .ok (optN (roomR rs x)) := by
  refine o_out ?_
  unfold F_room_at
  refine w_runB (e0 := [some (.tup (rs.map Row.d)), some (.int x), none, none, none, none]) rfl ?_
  unfold m_room_at
  refine w_seq (w_forM2 (fun es i e => es = rs.map Row.d ∧ (∃ x2 x3 x4 x5 : Option D, e = [some (.tup (rs.map Row.d)), some (.int x), x2, x3, x4, x5]) ∧ ∀ j q, j < i → rs[j]? = some q → room1 q x = none) ?_)
  walk_at "vc"
  refine ⟨⟨rfl, ⟨_, _, _, _, rfl⟩, fun j q hj => absurd hj (Nat.not_lt_zero _)⟩, ?_, ?_⟩
  · rintro i d e hd ⟨_, ⟨x2, x3, x4, x5, rfl⟩, hI⟩
    obtain ⟨r, hr, rfl⟩ := rowGet hd
    obtain ⟨hs, ha, hb, hp⟩ := h r (List.mem_of_getElem? hr)
    have hnx : room1 r x = none → ∀ j q, j < i + 1 → rs[j]? = some q → room1 q x = none := fun hn j q hj hq => by
      by_cases hji : j < i
      · exact hI j q hji hq
      · have : j = i := by omega
        subst this
        rw [hr] at hq
        cases hq
        exact hn
    unfold Row.d
    walk_at "vc"
    refine if_e (fun h0 => ?_) (fun h0 => ?_)
    · have h0' : r.s = 0 := by omega
      walk_at "vc"
      refine if_e (fun h1 => ?_) (fun h1 => ?_)
      · have h1' : r.a = x := by omega
        walk_at "vc"
        refine .inr ⟨_, rfl, ?_⟩
        have e1 : room1 r x = some r.b := by unfold room1; rw [if_pos ⟨h0', h1'⟩]
        rw [roomR_some hr hI e1]
        rfl
      · walk_at "vc"
        refine if_d (fun h2 => ?_) (fun h2 => ?_)
        · omega
        walk_at "vc"
        refine .inl ⟨rfl, rfl, ⟨_, _, _, _, rfl⟩, hnx ?_⟩
        unfold room1
        rw [if_neg (fun z => h1 (by omega)), if_neg (fun z => by omega)]
    · walk_at "vc"
      refine if_d (fun h2 => ?_) (fun h2 => ?_)
      rotate_left
      · omega
      walk_at "vc"
      refine if_d (fun h3 => ?_) (fun h3 => ?_)
      rotate_left
      · walk_at "vc"
        refine .inl ⟨rfl, rfl, ⟨_, _, _, _, rfl⟩, hnx ?_⟩
        unfold room1
        rw [if_neg (fun z => by omega), if_neg (fun z => by omega)]
      walk_at "vc"
      refine if_e (fun h4 => ?_) (fun h4 => ?_)
      · have h4' : (x - r.a) % r.s = 0 := by
          rw [sub_nat (by omega)] at h4
          exact Int.natCast_eq_zero.mp (by rw [Int.natCast_emod]; exact h4)
        walk_at "vc"
        have e2 : ((x : Int) - (r.a : Int)) / (r.s : Int) = (((x - r.a) / r.s : Nat) : Int) := by rw [sub_nat (by omega)]; rfl
        rw [e2]
        have hq : (x - r.a) / r.s < 2 ^ 300 := Nat.lt_of_le_of_lt (Nat.le_trans (Nat.div_le_self _ _) (Nat.sub_le _ _)) hx
        refine o_mul (by
          simp only [Int.natAbs_natCast]
          have := log_lt hp
          have := log_lt hq
          omega) ?_
        walk_at "vc"
        refine .inr ⟨_, rfl, ?_⟩
        have e1 : room1 r x = some (r.b + r.p * ((x - r.a) / r.s)) := by unfold room1; rw [if_neg (fun z => by omega), if_pos ⟨by omega, by omega, h4'⟩]
        rw [roomR_some hr hI e1]
        show D.int _ = D.int _
        rw [Int.natCast_add, Int.natCast_mul]
      · walk_at "vc"
        refine .inl ⟨rfl, rfl, ⟨_, _, _, _, rfl⟩, hnx ?_⟩
        unfold room1
        rw [if_neg (fun z => by omega), if_neg (fun z => h4 ?_)]
        rw [sub_nat (by omega), ← Int.natCast_emod, z.2.2]
        rfl
  · rintro e ⟨_, ⟨x2, x3, x4, x5, rfl⟩, hI⟩
    walk_at "vc"
    rw [roomR_none fun r hr => ?_]
    · rfl
    · obtain ⟨i, hi⟩ := List.getElem?_of_mem hr
      have := (List.getElem?_eq_some_iff.mp hi).1
      exact hI i r (by rw [List.length_map]; exact this) hi
theorem law_room_eq (rs : List Row) (x : Nat) (h : ∀ r ∈ rs, RowB r) (hx : x < 2 ^ 300) : F__law_room [.tup (rs.map Row.d), .int x] = .ok (optN (roomR rs x)) := by
  refine o_out ?_
  unfold F__law_room
  refine w_runB (e0 := [some (.tup (rs.map Row.d)), some (.int x), none, none, none, none]) rfl ?_
  unfold m__law_room
  refine w_seq (w_forM2 (fun es i e => es = rs.map Row.d ∧ (∃ x2 x3 x4 x5 : Option D, e = [some (.tup (rs.map Row.d)), some (.int x), x2, x3, x4, x5]) ∧ ∀ j q, j < i → rs[j]? = some q → room1 q x = none) ?_)
  walk_at "vc"
  refine ⟨⟨rfl, ⟨_, _, _, _, rfl⟩, fun j q hj => absurd hj (Nat.not_lt_zero _)⟩, ?_, ?_⟩
  · rintro i d e hd ⟨_, ⟨x2, x3, x4, x5, rfl⟩, hI⟩
    obtain ⟨r, hr, rfl⟩ := rowGet hd
    obtain ⟨hs, ha, hb, hp⟩ := h r (List.mem_of_getElem? hr)
    have hnx : room1 r x = none → ∀ j q, j < i + 1 → rs[j]? = some q → room1 q x = none := fun hn j q hj hq => by
      by_cases hji : j < i
      · exact hI j q hji hq
      · have : j = i := by omega
        subst this
        rw [hr] at hq
        cases hq
        exact hn
    unfold Row.d
    walk_at "vc"
    refine if_e (fun h0 => ?_) (fun h0 => ?_)
    · have h0' : r.s = 0 := by omega
      walk_at "vc"
      refine if_e (fun h1 => ?_) (fun h1 => ?_)
      · have h1' : r.a = x := by omega
        walk_at "vc"
        refine .inr ⟨_, rfl, ?_⟩
        have e1 : room1 r x = some r.b := by unfold room1; rw [if_pos ⟨h0', h1'⟩]
        rw [roomR_some hr hI e1]
        rfl
      · walk_at "vc"
        refine if_d (fun h2 => ?_) (fun h2 => ?_)
        · omega
        walk_at "vc"
        refine .inl ⟨rfl, rfl, ⟨_, _, _, _, rfl⟩, hnx ?_⟩
        unfold room1
        rw [if_neg (fun z => h1 (by omega)), if_neg (fun z => by omega)]
    · walk_at "vc"
      refine if_d (fun h2 => ?_) (fun h2 => ?_)
      rotate_left
      · omega
      walk_at "vc"
      refine if_d (fun h3 => ?_) (fun h3 => ?_)
      rotate_left
      · walk_at "vc"
        refine .inl ⟨rfl, rfl, ⟨_, _, _, _, rfl⟩, hnx ?_⟩
        unfold room1
        rw [if_neg (fun z => by omega), if_neg (fun z => by omega)]
      walk_at "vc"
      refine if_e (fun h4 => ?_) (fun h4 => ?_)
      · have h4' : (x - r.a) % r.s = 0 := by
          rw [sub_nat (by omega)] at h4
          exact Int.natCast_eq_zero.mp (by rw [Int.natCast_emod]; exact h4)
        walk_at "vc"
        have e2 : ((x : Int) - (r.a : Int)) / (r.s : Int) = (((x - r.a) / r.s : Nat) : Int) := by rw [sub_nat (by omega)]; rfl
        rw [e2]
        have hq : (x - r.a) / r.s < 2 ^ 300 := Nat.lt_of_le_of_lt (Nat.le_trans (Nat.div_le_self _ _) (Nat.sub_le _ _)) hx
        refine o_mul (by
          simp only [Int.natAbs_natCast]
          have := log_lt hp
          have := log_lt hq
          omega) ?_
        walk_at "vc"
        refine .inr ⟨_, rfl, ?_⟩
        have e1 : room1 r x = some (r.b + r.p * ((x - r.a) / r.s)) := by unfold room1; rw [if_neg (fun z => by omega), if_pos ⟨by omega, by omega, h4'⟩]
        rw [roomR_some hr hI e1]
        show D.int _ = D.int _
        rw [Int.natCast_add, Int.natCast_mul]
      · walk_at "vc"
        refine .inl ⟨rfl, rfl, ⟨_, _, _, _, rfl⟩, hnx ?_⟩
        unfold room1
        rw [if_neg (fun z => by omega), if_neg (fun z => h4 ?_)]
        rw [sub_nat (by omega), ← Int.natCast_emod, z.2.2]
        rfl
  · rintro e ⟨_, ⟨x2, x3, x4, x5, rfl⟩, hI⟩
    walk_at "vc"
    rw [roomR_none fun r hr => ?_]
    · rfl
    · obtain ⟨i, hi⟩ := List.getElem?_of_mem hr
      have := (List.getElem?_eq_some_iff.mp hi).1
      exact hI i r (by rw [List.length_map]; exact this) hi
end Gk71

namespace Gk71
open PySem PySem.Spec PyProof.Rows L2 Dn
/-! ### dicts of one's own, forwards -/
theorem w_setDM {i : Nat} {f : Lc → R ((List Key × List D) × Lc)} {e e1 : Lc} {p : List Key × List D} {Q : Fl → Lc → Prop} (h : f e = .ok (p, e1)) (q : Q .nx (e1.set i (some (.dct p.1 p.2)))) : Wp (setDM i f) e Q := by
  refine ⟨.nx, _, ?_, q⟩
  unfold setDM
  rw [h]
  rfl
theorem w_dputS {i : Nat} {fk fv : MD D} {e : Lc} {Q : Fl → Lc → Prop} (h : Wp fv e fun d e1 => ∃ ks0 ds0, e1[i]? = some (some (.dct ks0 ds0)) ∧ Wp fk e1 fun k e2 => ∃ ks ds key, e2[i]? = some (some (.dct ks ds)) ∧ keyOf k = some key ∧ ks.length < sizeLine ∧ Q .nx (e2.set i (some (.dct (putP (ks, ds) key d).1 (putP (ks, ds) key d).2)))) : Wp (dputS i fk fv) e Q := by
  obtain ⟨d, e1, h1, ks0, ds0, h2, k, e2, h3, ks, ds, key, h4, h5, h6, q⟩ := h
  refine ⟨.nx, _, ?_, q⟩
  unfold dputS
  rw [h1, R.bind_ok]
  simp only []
  rw [h2]
  simp only []
  rw [h3, R.bind_ok]
  simp only []
  rw [h4, h5]
  simp only []
  rw [if_pos h6]
theorem set_none {e : Lc} {j : Nat} (h : e[j]? = some none) : e.set j none = e := by
  apply List.ext_getElem?
  intro i
  by_cases hij : j = i
  · subst hij
    rw [List.getElem?_set_self (List.getElem?_eq_some_iff.mp h).1, h]
  · rw [List.getElem?_set_ne hij]
theorem dcS_int {j : Nat} {e : Lc} (hj : e[j]? = some none) : ∀ (ns : List Nat) (acc : List Key × List D), ∃ p, dcS [j] (nmG j) yesT (vr j) (cst (.bl true)) (ns.map fun (n : Nat) => D.int n) acc e = .ok (p, e) ∧ (∀ k, k ∈ p.1 ↔ k ∈ acc.1 ∨ ∃ n ∈ ns, k = .inl (n : Int)) ∧ p.1.length ≤ acc.1.length + ns.length
  | [], acc => ⟨acc, rfl, fun k => ⟨.inl, fun h => h.elim id fun ⟨_, h, _⟩ => absurd h (List.not_mem_nil)⟩, Nat.le_refl _⟩
  | n :: ns, acc => by
    obtain ⟨p, h1, h2, h3⟩ := dcS_int hj ns (putP acc (.inl (n : Int)) (.bl true))
    have hl : j < e.length := (List.getElem?_eq_some_iff.mp hj).1
    refine ⟨p, ?_, fun k => ?_, ?_⟩
    · rw [List.map_cons]
      unfold dcS
      have e1 : nmG j (.int n) e = .ok (e.set j (some (.int n))) := rfl
      rw [e1]
      simp only [noX, R.bind_ok, yesT]
      rw [vr_get j _ (.int n) (List.getElem?_set_self hl)]
      simp only [noX, R.bind_ok, cst]
      have e2 : keyOf (.int (n : Int)) = some (.inl (n : Int)) := rfl
      rw [e2]
      simp only []
      have e3 : wipeL (e.set j (some (.int n))) [j] = e := by
        rw [wipe1, List.set_set, set_none hj]
      rw [e3]
      exact h1
    · rw [h2, putP_mem]
      constructor
      · rintro ((h | rfl) | ⟨m, hm, rfl⟩)
        · exact .inl h
        · exact .inr ⟨n, List.mem_cons_self .., rfl⟩
        · exact .inr ⟨m, List.mem_cons_of_mem _ hm, rfl⟩
      · rintro (h | ⟨m, hm, rfl⟩)
        · exact .inl (.inl h)
        · rcases List.mem_cons.mp hm with rfl | hm
          · exact .inl (.inr rfl)
          · exact .inr ⟨m, hm, rfl⟩
    · have := putP_len (p := acc) (k := .inl (n : Int)) (d := .bl true)
      rw [List.length_cons]
      omega
theorem rngL_nat (n : Nat) : rngL 0 n = (List.range n).map fun (i : Nat) => D.int i := by
  unfold rngL
  refine List.map_congr_left fun i _ => ?_
  rw [Int.zero_add]
theorem dcM_rng {j n : Nat} {F : MD (List D)} {e : Lc} (hj : e[j]? = some none) (hF : Wp F e fun ds e1 => ds = rngL 0 n ∧ e1 = e) (hn : n ≤ 1000000) :
    ∃ p, dcM [j] F (nmG j) yesT (vr j) (cst (.bl true)) e = .ok (p, e) ∧ (∀ k, k ∈ p.1 ↔ ∃ m : Nat, m < n ∧ k = .inl (m : Int)) ∧ p.1.length ≤ n := by
  obtain ⟨_, _, hF, rfl, rfl⟩ := hF
  obtain ⟨p, h1, h2, h3⟩ := dcS_int hj (List.range n) ([], [])
  rw [← rngL_nat] at h1
  refine ⟨p, ?_, fun k => ?_, by simpa using h3⟩
  · unfold dcM
    rw [hF, R.bind_ok]
    simp only []
    rw [if_pos (by rw [rngL_len]; exact Nat.le_trans hn (by decide)), wipe1, set_none hj, h1, R.bind_ok, keep1]
    rw [List.getD_eq_getElem?_getD, hj]
    show R.ok (p, _) = _
    rw [show (some (none : Option D)).getD none = none from rfl, set_none hj]
  · rw [h2]
    constructor
    · rintro (h | ⟨m, hm, rfl⟩)
      · cases h
      · exact ⟨m, List.mem_range.mp hm, rfl⟩
    · rintro ⟨m, hm, rfl⟩
      exact .inr ⟨m, List.mem_range.mpr hm, rfl⟩
/-- [e for k in ks for b in ..], the inner walk's element told by b alone -/
theorem lcS_map {j : Nat} {el : MD D} {q : D → D} {e : Lc} (hj : e[j]? = some none) : ∀ (xs : List D), (∀ x ∈ xs, el (e.set j (some x)) = .ok (q x, e.set j (some x))) → lcS [j] (nmG j) yesT el xs e = .ok (xs.map q, e)
  | [], _ => rfl
  | x :: xs, h => by
    unfold lcS
    have e1 : nmG j x e = .ok (e.set j (some x)) := rfl
    rw [e1]
    simp only [noX, R.bind_ok, yesT]
    rw [h x (List.mem_cons_self ..)]
    simp only [noX, R.bind_ok]
    rw [wipe1, List.set_set, set_none hj, lcS_map hj xs fun y hy => h y (List.mem_cons_of_mem _ hy)]
    rfl
theorem lcS2_map {i j : Nat} {f1 : MD (List D)} {el : MD D} {q : D → D} {hh : D → List D} {e : Lc} (hi : e[i]? = some none) (hj : e[j]? = some none) (hij : i ≠ j) : ∀ (ds : List D) (n : Nat),
    (∀ d ∈ ds, f1 (e.set i (some d)) = .ok (hh d, e.set i (some d)) ∧ ∀ x ∈ hh d, el ((e.set i (some d)).set j (some x)) = .ok (q x, (e.set i (some d)).set j (some x))) → n + (ds.flatMap hh).length ≤ sizeLine →
    lcS2 [i, j] [j] (nmG i) yesT f1 (nmG j) yesT el ds n e = .ok ((ds.flatMap hh).map q, e)
  | [], n, _, _ => rfl
  | d :: ds, n, h, hn => by
    obtain ⟨h1, h2⟩ := h d (List.mem_cons_self ..)
    rw [List.flatMap_cons, List.length_append] at hn
    have hj' : (e.set i (some d))[j]? = some none := by rw [List.getElem?_set_ne hij]; exact hj
    unfold lcS2
    have e1 : nmG i d e = .ok (e.set i (some d)) := rfl
    rw [e1]
    simp only [noX, R.bind_ok, yesT]
    rw [h1]
    simp only [noX, R.bind_ok]
    rw [if_pos (by omega), wipe1, set_none hj', lcS_map hj' _ h2]
    simp only [R.bind_ok]
    have e2 : wipeL (e.set i (some d)) [i, j] = e := by
      show (((e.set i (some d)).set j none)).set i none = e
      rw [set_none hj', List.set_set, set_none hi]
    rw [e2, lcS2_map hi hj hij ds _ (fun y hy => h y (List.mem_cons_of_mem _ hy)) (by rw [List.length_map]; omega)]
    simp only [R.bind_ok]
    rw [List.flatMap_cons, List.map_append]
theorem lcM2_map {i j : Nat} {F : MD (List D)} {f1 : MD (List D)} {el : MD D} {q : D → D} {hh : D → List D} {e : Lc} {ds : List D} (hF : F e = .ok (ds, e)) (hi : e[i]? = some none) (hj : e[j]? = some none) (hij : i ≠ j)
    (h : ∀ d ∈ ds, f1 (e.set i (some d)) = .ok (hh d, e.set i (some d)) ∧ ∀ x ∈ hh d, el ((e.set i (some d)).set j (some x)) = .ok (q x, (e.set i (some d)).set j (some x))) (hn : (ds.flatMap hh).length ≤ sizeLine) :
    lcM2 [i, j] [j] F (nmG i) yesT f1 (nmG j) yesT el e = .ok ((ds.flatMap hh).map q, e) := by
  have ew : wipeL e [i, j] = e := by
    show (e.set j none).set i none = e
    rw [set_none hj, set_none hi]
  unfold lcM2
  rw [hF]
  simp only [R.bind_ok]
  rw [ew, lcS2_map hi hj hij ds 0 h (by omega)]
  simp only [R.bind_ok]
  show R.ok (_, (e.set j (e.getD j none)).set i (e.getD i none)) = _
  rw [List.getD_eq_getElem?_getD, List.getD_eq_getElem?_getD, hi, hj]
  show R.ok (_, (e.set j none).set i none) = _
  rw [set_none hj, set_none hi]
theorem w_lockF {i : Nat} {f : List Key → MD (List D)} {e : Lc} {ks : List Key} {ds : List D} {rs : List D} {Q : List D → Lc → Prop} (hi : e[i]? = some (some (.dct ks ds))) (h : f ks (e.set i none) = .ok (rs, e.set i none)) (q : Q rs e) : Wp (lockF i f) e Q := by
  refine ⟨rs, e, ?_, q⟩
  unfold lockF
  rw [hi]
  simp only []
  rw [h]
  simp only [noX, R.bind_ok]
  rw [List.set_set]
  congr 2
  apply List.ext_getElem?
  intro j
  by_cases hij : i = j
  · subst hij
    rw [List.getElem?_set_self (List.getElem?_eq_some_iff.mp hi).1, hi]
  · rw [List.getElem?_set_ne hij]
end Gk71

namespace Gk71
open PySem PySem.Spec PyProof.Rows L2 Dn
theorem wp_eq {α : Type} {m : Lc → R (α × Lc)} {e e' : Lc} {a : α} (h : Wp m e fun x e1 => x = a ∧ e1 = e') : m e = .ok (a, e') := by
  obtain ⟨_, _, h1, rfl, rfl⟩ := h
  exact h1
/-! ### where two layings are looked at -/
def turnsR (W : Nat) (r : Row) : Nat := if r.s = 0 then 2 else W / r.s
def stepR (W : Nat) (r : Row) : Nat := if r.s = 0 then W else r.s
def Beg (W : Nat) (rows : List Row) (x : Nat) : Prop := ∃ r ∈ rows, ∃ t, t < turnsR W r ∧ x = r.a + stepR W r * t
def Spot (W : Nat) (rows : List Row) (x : Nat) : Prop := x < 2 * W ∨ Beg W rows x ∨ ∃ y, Beg W rows y ∧ x = y + W
open Classical in
noncomputable def alikeB (W : Nat) (rows rs ls : List Row) : Bool := decide (∀ x, Spot W rows x → roomR rs x = roomR ls x)
def qB (rs ls : List Row) : D → Bool
  | .int k => decide (roomR rs k.toNat = roomR ls k.toNat)
  | _ => false
open Classical in
theorem all_spots {xs : List D} {W : Nat} {rows rs ls : List Row} (h1 : ∀ d ∈ xs, ∃ x : Nat, d = .int x ∧ Spot W rows x) (h2 : ∀ x, Spot W rows x → D.int x ∈ xs) : xs.all (qB rs ls) = alikeB W rows rs ls := by
  unfold alikeB
  by_cases h : ∀ x, Spot W rows x → roomR rs x = roomR ls x
  · rw [decide_eq_true h, List.all_eq_true]
    intro d hd
    obtain ⟨x, rfl, hx⟩ := h1 d hd
    exact decide_eq_true (h x hx)
  · rw [decide_eq_false h, Bool.eq_false_iff]
    intro z
    rw [List.all_eq_true] at z
    exact h fun x hx => of_decide_eq_true (z _ (h2 x hx))
theorem turns_le {W : Nat} {r : Row} (h : W ≤ 57600) : turnsR W r ≤ 57600 := by
  unfold turnsR
  split
  · decide
  · exact Nat.le_trans (Nat.div_le_self _ _) h
theorem beg_lt {W : Nat} {rows : List Row} {x : Nat} (hR : ∀ r ∈ rows, RowB r) (hW : W ≤ 57600) (h : Beg W rows x) : x < 2 ^ 250 := by
  obtain ⟨r, hr, t, ht, rfl⟩ := h
  obtain ⟨h1, h2, _⟩ := hR r hr
  have h3 : t ≤ 57600 := Nat.le_trans (Nat.le_of_lt ht) (turns_le hW)
  have h4 : stepR W r ≤ 57600 := by
    unfold stepR
    split <;> omega
  have h5 : stepR W r * t ≤ 57600 * 57600 := Nat.mul_le_mul h4 h3
  have h6 : (2 : Nat) ^ 200 + 57600 * 57600 < 2 ^ 250 := by decide
  omega
theorem spot_lt {W : Nat} {rows : List Row} {x : Nat} (hR : ∀ r ∈ rows, RowB r) (hW : W ≤ 57600) (h : Spot W rows x) : x < 2 ^ 300 := by
  have h6 : (2 : Nat) ^ 250 + 57600 < 2 ^ 300 := by decide
  have h7 : 2 * 57600 < (2 : Nat) ^ 250 := by decide
  rcases h with h | h | ⟨y, h, rfl⟩
  · omega
  · have := beg_lt hR hW h
    omega
  · have := beg_lt hR hW h
    omega
theorem lcm_nats (rs : List Row) (h : ∀ r ∈ rs, r.s ≤ 240) (hl : rs.length ≤ 120) {a b x3 x4 x5 x6 x7 x8 x9 x10 x12 x13 : Option D} :
    calM F_common [] (consA (asL (lcM [11] (seqM (vr 2)) (nmG 11) (tst (bin2 gtD (bin2 idxD (vr 11) (cst (.int 1))) (cst (.int 0)))) (bin2 idxD (vr 11) (cst (.int 1))))) nilA) [a, b, some (.tup (rs.map Row.d)), x3, x4, x5, x6, x7, x8, x9, x10, none, x12, x13] = .ok (.int (lcmR rs), [a, b, some (.tup (rs.map Row.d)), x3, x4, x5, x6, x7, x8, x9, x10, none, x12, x13]) := by
  have h1 := lcM_filt (i := 11) (e := [a, b, some (.tup (rs.map Row.d)), x3, x4, x5, x6, x7, x8, x9, x10, none, x12, x13]) (F := seqM (vr 2)) (ds := rs.map Row.d) (t := tst (bin2 gtD (bin2 idxD (vr 11) (cst (.int 1))) (cst (.int 0)))) (el := bin2 idxD (vr 11) (cst (.int 1)))
    (p := fun d => match d with | .tup [_, .int s, _, _] => decide (0 < s) | _ => false) (hh := fun d => match d with | .tup [_, x, _, _] => x | _ => .non)
    (by simp [vr]) (by rw [List.length_map]; exact le_size (by omega)) (show 11 < 14 by decide)
    (fun d hd => by
      obtain ⟨r, _, rfl⟩ := List.mem_map.mp hd
      simp [vr, Row.d, idxD, atI, ixN, gtD])
    (fun d hd _ => by
      obtain ⟨r, _, rfl⟩ := List.mem_map.mp hd
      simp [vr, Row.d, idxD, atI, ixN])
  have h1 := h1.trans (congrArg (fun z => R.ok (z, _)) (filt_rows rs))
  have h2 := common_eq ((rs.map Row.s).filter (0 < ·)) (fun n hn => by
    rw [List.mem_filter, List.mem_map] at hn
    obtain ⟨⟨r, hr, rfl⟩, h3⟩ := hn
    have := h r hr
    simp at h3
    omega) (Nat.le_trans (List.length_filter_le _ _) (by rw [List.length_map]; omega))
  simp only [s_calM, s_consA, s_asL, s_nilA]
  rw [h1]
  simp only [R.bind_ok, List.append_nil]
  rw [h2]
  rfl
def KeysIn (W : Nat) (rows : List Row) (i : Nat) (r : Row) (j : Nat) (ks : List Key) : Prop := ∀ k, k ∈ ks ↔ ∃ x : Nat, k = .inl (x : Int) ∧ (x < W ∨ Beg W (rows.take i) x ∨ ∃ t, t < j ∧ x = r.a + stepR W r * t)
def KeysIs (W : Nat) (rows : List Row) (i : Nat) (ks : List Key) : Prop := ∀ k, k ∈ ks ↔ ∃ x : Nat, k = .inl (x : Int) ∧ (x < W ∨ Beg W (rows.take i) x)
theorem KeysIs.zero {W : Nat} {rows : List Row} {i : Nat} {r : Row} {ks : List Key} (h : KeysIs W rows i ks) : KeysIn W rows i r 0 ks := fun k => by
  rw [h k]
  constructor
  · rintro ⟨x, rfl, h | h⟩
    · exact ⟨x, rfl, .inl h⟩
    · exact ⟨x, rfl, .inr (.inl h)⟩
  · rintro ⟨x, rfl, h | h | ⟨t, ht, _⟩⟩
    · exact ⟨x, rfl, .inl h⟩
    · exact ⟨x, rfl, .inr h⟩
    · exact absurd ht (Nat.not_lt_zero t)
theorem KeysIn.put {W : Nat} {rows : List Row} {i j : Nat} {r : Row} {ks : List Key} {ds : List D} {d : D} (h : KeysIn W rows i r j ks) : KeysIn W rows i r (j + 1) (putP (ks, ds) (.inl ((r.a + stepR W r * j : Nat) : Int)) d).1 := fun k => by
  rw [putP_mem, h k]
  constructor
  · rintro (⟨x, rfl, h | h | ⟨t, ht, h⟩⟩ | rfl)
    · exact ⟨x, rfl, .inl h⟩
    · exact ⟨x, rfl, .inr (.inl h)⟩
    · exact ⟨x, rfl, .inr (.inr ⟨t, Nat.lt_succ_of_lt ht, h⟩)⟩
    · exact ⟨_, rfl, .inr (.inr ⟨j, Nat.lt_succ_self j, rfl⟩)⟩
  · rintro ⟨x, rfl, hx | hx | ⟨t, ht, hx⟩⟩
    · exact .inl ⟨x, rfl, .inl hx⟩
    · exact .inl ⟨x, rfl, .inr (.inl hx)⟩
    · by_cases e : t = j
      · rw [hx, e]
        exact .inr rfl
      · exact .inl ⟨x, rfl, .inr (.inr ⟨t, by omega, hx⟩)⟩
theorem KeysIn.done {W : Nat} {rows : List Row} {i : Nat} {r : Row} {ks : List Key} (hr : rows[i]? = some r) (h : KeysIn W rows i r (turnsR W r) ks) : KeysIs W rows (i + 1) ks := fun k => by
  have e : rows.take (i + 1) = rows.take i ++ [r] := by rw [List.take_succ, hr]; rfl
  rw [h k, e]
  constructor
  · rintro ⟨x, rfl, h | ⟨q, hq, h⟩ | ⟨t, ht, h⟩⟩
    · exact ⟨x, rfl, .inl h⟩
    · exact ⟨x, rfl, .inr ⟨q, List.mem_append_left _ hq, h⟩⟩
    · exact ⟨x, rfl, .inr ⟨r, List.mem_append_right _ (List.mem_singleton.mpr rfl), t, ht, h⟩⟩
  · rintro ⟨x, rfl, hx | ⟨q, hq, t, ht, hx⟩⟩
    · exact ⟨x, rfl, .inl hx⟩
    · rcases List.mem_append.mp hq with hq | hq
      · exact ⟨x, rfl, .inr (.inl ⟨q, hq, t, ht, hx⟩)⟩
      · rw [List.mem_singleton.mp hq] at ht hx
        exact ⟨x, rfl, .inr (.inr ⟨t, ht, hx⟩)⟩
def hK (W : Nat) : D → List D
  | .int k => [.int k, .int (k + W)]
  | _ => []
theorem keys_spots {W : Nat} {rows : List Row} {ks : List Key} (h : KeysIs W rows rows.length ks) : (∀ d ∈ (ks.map keyV).flatMap (hK W), ∃ x : Nat, d = .int x ∧ Spot W rows x) ∧ ∀ x, Spot W rows x → D.int x ∈ (ks.map keyV).flatMap (hK W) := by
  have ht : rows.take rows.length = rows := List.take_length
  unfold KeysIs at h
  rw [ht] at h
  have mem : ∀ x : Nat, (x < W ∨ Beg W rows x) → D.int x ∈ (ks.map keyV).flatMap (hK W) ∧ D.int ((x : Int) + W) ∈ (ks.map keyV).flatMap (hK W) := fun x hx => by
    have hk : (Sum.inl (x : Int) : Key) ∈ ks := (h _).mpr ⟨x, rfl, hx⟩
    have hm : D.int x ∈ ks.map keyV := List.mem_map.mpr ⟨_, hk, rfl⟩
    exact ⟨List.mem_flatMap.mpr ⟨_, hm, List.mem_cons_self ..⟩, List.mem_flatMap.mpr ⟨_, hm, List.mem_cons_of_mem _ (List.mem_cons_self ..)⟩⟩
  refine ⟨fun d hd => ?_, fun x hx => ?_⟩
  · obtain ⟨c, hc, hd⟩ := List.mem_flatMap.mp hd
    obtain ⟨k, hk, rfl⟩ := List.mem_map.mp hc
    obtain ⟨x, rfl, hx⟩ := (h k).mp hk
    have hd' : d ∈ [D.int x, D.int ((x : Int) + W)] := hd
    rcases List.mem_cons.mp hd' with rfl | hd'
    · exact ⟨x, rfl, hx.elim (fun z => .inl (by omega)) fun z => .inr (.inl z)⟩
    · rw [List.mem_singleton] at hd'
      subst hd'
      exact ⟨x + W, by congr 1, hx.elim (fun z => .inl (by omega)) fun z => .inr (.inr ⟨x, z, rfl⟩)⟩
  · rcases hx with hx | hx | ⟨y, hy, rfl⟩
    · by_cases hw : x < W
      · exact (mem x (.inl hw)).1
      · have := (mem (x - W) (.inl (by omega))).2
        rw [show (((x - W : Nat) : Int) + (W : Int)) = (x : Int) from by omega] at this
        exact this
    · exact (mem x (.inr hx)).1
    · exact (mem y (.inr hy)).2
end Gk71

namespace Gk71
open PySem PySem.Spec PyProof.Rows L2 Dn
/-! ### the program's lead_alike -/
theorem lead_alike_eq (rs ls : List Row) (hR : ∀ r ∈ rs ++ ls, RowB r) (hl : (rs ++ ls).length ≤ 120) (hW : lcmR (rs ++ ls) ≤ 57600) : F_lead_alike [.tup (rs.map Row.d), .tup (ls.map Row.d)] = .ok (.bl (alikeB (lcmR (rs ++ ls)) (rs ++ ls) rs ls)) := by
  refine o_out ?_
  unfold F_lead_alike
  refine w_runB (e0 := [some (.tup (rs.map Row.d)), some (.tup (ls.map Row.d)), none, none, none, none, none, none, none, none, none, none, none, none]) rfl ?_
  unfold m_lead_alike
  have hl2 : (rs.map Row.d).length + (ls.map Row.d).length ≤ 1000 := by
    rw [List.length_map, List.length_map, ← List.length_append]
    omega
  walk_at "st"
  refine o_addT (le_size hl2) ?_
  rw [← List.map_append]
  have hR1 : ∀ r ∈ rs, RowB r := fun r hr => hR r (List.mem_append_left _ hr)
  have hR2 : ∀ r ∈ ls, RowB r := fun r hr => hR r (List.mem_append_right _ hr)
  have hco := lcm_nats (rs ++ ls) (fun r hr => (hR r hr).1) hl (a := some (.tup (rs.map Row.d))) (b := some (.tup (ls.map Row.d))) (x3 := none) (x4 := none) (x5 := none) (x6 := none) (x7 := none) (x8 := none) (x9 := none) (x10 := none) (x12 := none) (x13 := none)
  generalize hrows : rs ++ ls = rows at *
  generalize hWe : lcmR rows = W at *
  walk_at "nx"
  refine w_seq (w_setS ⟨_, _, hco, ?_⟩)
  walk_at "nx"
  obtain ⟨⟨ks0, ds0⟩, hp1, hp2, hp3⟩ := dcM_rng (j := 10) (n := W) (F := rng1M (consA (vr 3) nilA)) (e := [some (.tup (rs.map Row.d)), some (.tup (ls.map Row.d)), some (.tup (rows.map Row.d)), some (.int W), none, none, none, none, none, none, none, none, none, none]) rfl (by
    walk_at "vc"
    exact ⟨by omega, rfl, rfl⟩) (by omega)
  refine w_seq (w_setDM hp1 ?_)
  dsimp only at hp2 hp3 ⊢
  walk_at "nx"
  refine w_seq (w_forM (fun es i e => es = rows.map Row.d ∧ ∃ (ks : List Key) (ds : List D) (x5 x6 x7 x8 x9 : Option D), e = [some (.tup (rs.map Row.d)), some (.tup (ls.map Row.d)), some (.tup (rows.map Row.d)), some (.int W), some (.dct ks ds), x5, x6, x7, x8, x9, none, none, none, none] ∧ KeysIs W rows i ks ∧ ks.length ≤ W + 57600 * i) ?_)
  walk_at "vc"
  refine ⟨⟨rfl, ks0, ds0, _, _, _, _, _, rfl, ?_, hp3⟩, ?_, ?_⟩
  · intro k
    rw [hp2 k]
    constructor
    · rintro ⟨m, hm, rfl⟩
      exact ⟨m, rfl, .inl hm⟩
    · rintro ⟨x, rfl, hx | ⟨r, hr, _⟩⟩
      · exact ⟨x, hx, rfl⟩
      · rw [List.take_zero] at hr
        cases hr
  · rintro i d e hd ⟨_, ks, ds, x5, x6, x7, x8, x9, rfl, hK, hkl⟩
    obtain ⟨r, hr, rfl⟩ := rowGet hd
    obtain ⟨hs, ha, hb, hp⟩ := hR r (List.mem_of_getElem? hr)
    have hi : i < 120 := by
      have := (List.getElem?_eq_some_iff.mp hr).1
      omega
    have htl : turnsR W r ≤ 57600 := turns_le hW
    unfold Row.d
    walk_at "vc"
    refine w_forM (fun es j e => es = rngL 0 (turnsR W r) ∧ ∃ (ks : List Key) (ds : List D) (x9 : Option D), e = [some (.tup (rs.map Row.d)), some (.tup (ls.map Row.d)), some (.tup (rows.map Row.d)), some (.int W), some (.dct ks ds), some (.int r.a), some (.int r.s), some (.int r.b), some (.int r.p), x9, none, none, none, none] ∧ KeysIn W rows i r j ks ∧ ks.length ≤ W + 57600 * i + j) ?_
    refine Wp.mono (P := fun es e => es = rngL 0 (turnsR W r) ∧ e = [some (.tup (rs.map Row.d)), some (.tup (ls.map Row.d)), some (.tup (rows.map Row.d)), some (.int W), some (.dct ks ds), some (.int r.a), some (.int r.s), some (.int r.b), some (.int r.p), x9, none, none, none, none]) ?_ ?_
    · walk_at "vc"
      refine if_e (fun h0 => ?_) (fun h0 => ?_)
      · walk_at "vc"
        have e1 : turnsR W r = 2 := by unfold turnsR; rw [if_pos (by omega)]
        exact ⟨by rw [e1], rfl⟩
      · walk_at "vc"
        have e1 : turnsR W r = W / r.s := by unfold turnsR; rw [if_neg (by omega)]
        have e2 : (W : Int) / (r.s : Int) = ((turnsR W r : Nat) : Int) := by rw [e1]; rfl
        rw [e2]
        walk_at "vc"
        exact ⟨by omega, rfl, rfl⟩
    · rintro _ _ ⟨rfl, rfl⟩
      refine ⟨⟨rfl, ks, ds, x9, rfl, hK.zero, hkl⟩, ?_, ?_⟩
      · rintro j d e hd ⟨_, ks, ds, x9, rfl, hK, hkl⟩
        obtain ⟨rfl, hj⟩ := rngL_mem hd
        walk_at "vc"
        refine w_dputS (w_cst ⟨ks, ds, rfl, ?_⟩)
        walk_at "vc"
        have fin : ∀ x : Int, x = ((r.a + stepR W r * j : Nat) : Int) → ∃ ks' ds' key, ([some (.tup (rs.map Row.d)), some (.tup (ls.map Row.d)), some (.tup (rows.map Row.d)), some (.int W), some (.dct ks ds), some (.int r.a), some (.int r.s), some (.int r.b), some (.int r.p), some (.int j), none, none, none, none] : Lc)[4]? = some (some (.dct ks' ds')) ∧ keyOf (.int x) = some key ∧ ks'.length < sizeLine ∧
            (Fl.nx = .nx ∧ rngL 0 (turnsR W r) = rngL 0 (turnsR W r) ∧ ∃ (ks2 : List Key) (ds2 : List D) (x9 : Option D), ([some (.tup (rs.map Row.d)), some (.tup (ls.map Row.d)), some (.tup (rows.map Row.d)), some (.int W), some (.dct ks ds), some (.int r.a), some (.int r.s), some (.int r.b), some (.int r.p), some (.int j), none, none, none, none] : Lc).set 4 (some (.dct (putP (ks', ds') key (.bl true)).1 (putP (ks', ds') key (.bl true)).2)) = [some (.tup (rs.map Row.d)), some (.tup (ls.map Row.d)), some (.tup (rows.map Row.d)), some (.int W), some (.dct ks2 ds2), some (.int r.a), some (.int r.s), some (.int r.b), some (.int r.p), x9, none, none, none, none] ∧ KeysIn W rows i r (j + 1) ks2 ∧ ks2.length ≤ W + 57600 * i + (j + 1)) := fun x hx => by
          subst hx
          refine ⟨ks, ds, _, rfl, rfl, Nat.lt_of_le_of_lt (show ks.length ≤ 7100000 by omega) (by decide), rfl, rfl, _, _, _, rfl, hK.put, ?_⟩
          have := putP_len (p := (ks, ds)) (k := .inl ((r.a + stepR W r * j : Nat) : Int)) (d := .bl true)
          dsimp only at this
          omega
        refine if_e (fun h0 => ?_) (fun h0 => ?_)
        · walk_at "vc"
          refine fin _ ?_
          unfold stepR
          rw [if_pos (by omega)]
          omega
        · walk_at "vc"
          refine fin _ ?_
          unfold stepR
          rw [if_neg (by omega)]
          omega
      · rintro e ⟨_, ks, ds, x9, rfl, hK, hkl⟩
        rw [rngL_len] at hK hkl
        exact ⟨rfl, rfl, ks, ds, _, _, _, _, _, rfl, hK.done hr, by omega⟩
  · rintro e ⟨_, ks, ds, x5, x6, x7, x8, x9, rfl, hKs, hkl⟩
    rw [List.length_map] at hKs hkl
    walk_at "nx"
    obtain ⟨sp1, sp2⟩ := keys_spots hKs
    have hfl : ∀ es : List D, (es.flatMap (hK W)).length ≤ 2 * es.length := fun es => by
      induction es with
      | nil => exact Nat.le_refl _
      | cons d es ih =>
        rw [List.flatMap_cons, List.length_append, List.length_cons]
        have : (hK W d).length ≤ 2 := by unfold hK; split <;> simp
        omega
    refine w_ret (w_callD (w_consA (w_asL (w_lockF (rs := ((ks.map keyV).flatMap (hK W)).map fun x => .bl (qB rs ls x)) rfl (lcM2_map (ds := ks.map keyV) (q := fun x => .bl (qB rs ls x)) (hh := hK W) rfl rfl rfl (by decide) ?_ ?_) ?_))))
    · intro d hd
      obtain ⟨k, hk, rfl⟩ := List.mem_map.mp hd
      obtain ⟨x, rfl, hx⟩ := (hKs k).mp hk
      refine ⟨?_, fun y hy => ?_⟩
      · refine wp_eq ?_
        show Wp _ [some (.tup (rs.map Row.d)), some (.tup (ls.map Row.d)), some (.tup (rows.map Row.d)), some (.int W), none, x5, x6, x7, x8, x9, none, none, some (.int x), none] _
        walk_at "vc"
        exact ⟨rfl, rfl⟩
      · obtain ⟨n, rfl, hn⟩ := sp1 y (List.mem_flatMap.mpr ⟨_, hd, hy⟩)
        have hlt : n < 2 ^ 300 := spot_lt hR hW hn
        refine wp_eq ?_
        show Wp _ [some (.tup (rs.map Row.d)), some (.tup (ls.map Row.d)), some (.tup (rows.map Row.d)), some (.int W), none, x5, x6, x7, x8, x9, none, none, some (.int x), some (.int n)] _
        walk_at "vc"
        refine o_eq (room_at_eq rs n hR1 hlt) ?_
        walk_at "vc"
        refine o_eq (room_at_eq ls n hR2 hlt) ?_
        refine o_eqO _ _ ?_
        exact ⟨rfl, rfl⟩
    · have := hfl (ks.map keyV)
      rw [List.length_map] at this
      exact Nat.le_trans this (Nat.le_trans (show 2 * ks.length ≤ 16000000 by omega) (by decide))
    · walk_at "vc"
      refine o_all ?_
      walk_at "vc"
      rw [all_spots sp1 sp2]
end Gk71

namespace Gk71
open PySem PySem.Spec PyProof.Rows L2 Dn
/-! ### the law's spots -/
theorem lcmB2 {a b x4 x5 x6 x7 x8 x9 x10 x11 : Option D} {W : Nat} {r : Row} (h1 : r.s ≤ 240) (hW : 1 ≤ W) (hW2 : W ≤ 57600) : setS 2 (bin2 fdivD (bin2 mulD (vr 2) (callD maxD (consA (cst (.int 1)) (consA (bin2 idxD (vr 3) (cst (.int 1))) nilA)))) (calM F__law_shared [] (consA (vr 2) (consA (callD maxD (consA (cst (.int 1)) (consA (bin2 idxD (vr 3) (cst (.int 1))) nilA))) nilA)))) [a, b, some (.int W), some r.d, x4, x5, x6, x7, x8, x9, x10, x11] = .ok (.nx, [a, b, some (.int (Nat.lcm W (max 1 r.s) : Nat)), some r.d, x4, x5, x6, x7, x8, x9, x10, x11]) := by
  have hmx := max_eq r.s
  have hM1 : 1 ≤ max 1 r.s := Nat.le_max_left ..
  have hM2 : max 1 r.s ≤ 240 := by omega
  have hs := lcm_step (L := W) (n := max 1 r.s) (m := 16) (by omega) hW hM1 hM2 (by decide)
  have hsh := shared_eq W (max 1 r.s) (small240 hM2)
  generalize max 1 r.s = M at hmx hM1 hM2 hs hsh
  cases e1 : mulD (.int W) (.int M) with
  | ok d =>
    rw [e1] at hs
    have hs' : fdivD d (.int (Nat.gcd W M)) = .ok (.int (Nat.lcm W M)) := hs
    simp [vr, idxR1, hmx, e1, hsh, hs']
  | exc y z => exact absurd e1 (mulD_nx _ _ _ _)
  | bad =>
    rw [e1] at hs
    cases hs
theorem lcmW_app (W : Nat) (rs ls : List Row) : lcmW W (rs ++ ls) = lcmW (lcmW W rs) ls := by
  unfold lcmW
  rw [List.map_append, List.foldl_append]
theorem lcmW_take {rows : List Row} {i : Nat} : lcmW 1 (rows.take i) ∣ lcmW 1 rows := by
  have := lcmW_dvd (rows.drop i) (lcmW 1 (rows.take i))
  rw [← lcmW_app, List.take_append_drop] at this
  exact this
theorem take_snoc {rows : List Row} {i : Nat} {r : Row} (hr : rows[i]? = some r) : rows.take (i + 1) = rows.take i ++ [r] := by rw [List.take_succ, hr]; rfl
def SpIn (W : Nat) (rows : List Row) (i : Nat) (r : Row) (j : Nat) (x : Nat) : Prop := Spot W (rows.take i) x ∨ ∃ t, t < j ∧ (x = r.a + stepR W r * t ∨ x = r.a + stepR W r * t + W)
def Has (P : Nat → Prop) (xs : List D) : Prop := (∀ d ∈ xs, ∃ x : Nat, d = .int x ∧ P x) ∧ ∀ x, P x → D.int x ∈ xs
theorem Has.iff {P Q : Nat → Prop} {xs : List D} (h : Has P xs) (e : ∀ x, P x ↔ Q x) : Has Q xs := ⟨fun d hd => by
  obtain ⟨x, rfl, hx⟩ := h.1 d hd
  exact ⟨x, rfl, (e x).mp hx⟩, fun x hx => h.2 x ((e x).mpr hx)⟩
theorem Has.two {P : Nat → Prop} {xs : List D} {a b : Nat} (h : Has P xs) : Has (fun x => P x ∨ x = a ∨ x = b) (xs ++ [.int a, .int b]) := ⟨fun d hd => by
  rcases List.mem_append.mp hd with hd | hd
  · obtain ⟨x, rfl, hx⟩ := h.1 d hd
    exact ⟨x, rfl, .inl hx⟩
  · rcases List.mem_cons.mp hd with rfl | hd
    · exact ⟨a, rfl, .inr (.inl rfl)⟩
    · rw [List.mem_singleton] at hd
      subst hd
      exact ⟨b, rfl, .inr (.inr rfl)⟩, fun x hx => by
  rcases hx with hx | rfl | rfl
  · exact List.mem_append_left _ (h.2 x hx)
  · exact List.mem_append_right _ (List.mem_cons_self ..)
  · exact List.mem_append_right _ (List.mem_cons_of_mem _ (List.mem_cons_self ..))⟩
theorem spIn_zero {W : Nat} {rows : List Row} {i : Nat} {r : Row} (x : Nat) : Spot W (rows.take i) x ↔ SpIn W rows i r 0 x := by
  constructor
  · exact .inl
  · rintro (h | ⟨t, ht, _⟩)
    · exact h
    · exact absurd ht (Nat.not_lt_zero t)
theorem spIn_succ {W : Nat} {rows : List Row} {i j : Nat} {r : Row} (x : Nat) : (SpIn W rows i r j x ∨ x = r.a + stepR W r * j ∨ x = r.a + stepR W r * j + W) ↔ SpIn W rows i r (j + 1) x := by
  constructor
  · rintro ((h | ⟨t, ht, h⟩) | h)
    · exact .inl h
    · exact .inr ⟨t, Nat.lt_succ_of_lt ht, h⟩
    · exact .inr ⟨j, Nat.lt_succ_self j, h⟩
  · rintro (h | ⟨t, ht, h⟩)
    · exact .inl (.inl h)
    · by_cases e : t = j
      · rw [e] at h
        exact .inr h
      · exact .inl (.inr ⟨t, by omega, h⟩)
theorem spIn_done {W : Nat} {rows : List Row} {i : Nat} {r : Row} (hr : rows[i]? = some r) (x : Nat) : SpIn W rows i r (turnsR W r) x ↔ Spot W (rows.take (i + 1)) x := by
  rw [take_snoc hr]
  constructor
  · rintro ((h | ⟨q, hq, h⟩ | ⟨y, ⟨q, hq, h⟩, hy⟩) | ⟨t, ht, h | h⟩)
    · exact .inl h
    · exact .inr (.inl ⟨q, List.mem_append_left _ hq, h⟩)
    · exact .inr (.inr ⟨y, ⟨q, List.mem_append_left _ hq, h⟩, hy⟩)
    · exact .inr (.inl ⟨r, List.mem_append_right _ (List.mem_singleton.mpr rfl), t, ht, h⟩)
    · exact .inr (.inr ⟨_, ⟨r, List.mem_append_right _ (List.mem_singleton.mpr rfl), t, ht, rfl⟩, h⟩)
  · rintro (h | ⟨q, hq, t, ht, h⟩ | ⟨y, ⟨q, hq, t, ht, h⟩, hy⟩)
    · exact .inl (.inl h)
    · rcases List.mem_append.mp hq with hq | hq
      · exact .inl (.inr (.inl ⟨q, hq, t, ht, h⟩))
      · rw [List.mem_singleton.mp hq] at ht h
        exact .inr ⟨t, ht, .inl h⟩
    · rcases List.mem_append.mp hq with hq | hq
      · exact .inl (.inr (.inr ⟨y, ⟨q, hq, t, ht, h⟩, hy⟩))
      · rw [List.mem_singleton.mp hq] at ht h
        rw [h] at hy
        exact .inr ⟨t, ht, .inr hy⟩
def Begins (W : Nat) (r : Row) (bs : List D) : Prop := bs.length = turnsR W r ∧ ∀ (t : Nat) (d : D), bs[t]? = some d → d = D.int ((r.a + stepR W r * t : Nat) : Int)
theorem spots_eq (rs ls : List Row) (hR : ∀ r ∈ rs ++ ls, RowB r) (hl : (rs ++ ls).length ≤ 120) (hW : lcmR (rs ++ ls) ≤ 57600) : Ok (F__law_spots [.tup (rs.map Row.d), .tup (ls.map Row.d)]) fun d => ∃ xs, d = .lst xs ∧ Has (Spot (lcmR (rs ++ ls)) (rs ++ ls)) xs ∧ xs.length ≤ 15000000 := by
  unfold F__law_spots
  refine w_runB (e0 := [some (.tup (rs.map Row.d)), some (.tup (ls.map Row.d)), none, none, none, none, none, none, none, none, none, none]) rfl ?_
  unfold m__law_spots
  have hl2 : (rs.map Row.d).length + (ls.map Row.d).length ≤ 1000 := by
    rw [List.length_map, List.length_map, ← List.length_append]
    omega
  have hsum : rs.map Row.d ++ ls.map Row.d = (rs ++ ls).map Row.d := (List.map_append ..).symm
  have hWe : lcmR (rs ++ ls) = lcmW 1 (rs ++ ls) := (lcmW_filt (rs ++ ls) 1).symm
  generalize hrows : rs ++ ls = rows at *
  generalize hWn : lcmR rows = W at *
  walk_at "st"
  walk_at "nx"
  refine w_seq (w_forM (fun es i e => es = rows.map Row.d ∧ ∃ x3 : Option D, e = [some (.tup (rs.map Row.d)), some (.tup (ls.map Row.d)), some (.int (lcmW 1 (rows.take i) : Nat)), x3, none, none, none, none, none, none, none, none]) ?_)
  walk_at "vc"
  refine o_addT (le_size hl2) ?_
  rw [hsum]
  walk_at "vc"
  refine ⟨⟨rfl, none, rfl⟩, ?_, ?_⟩
  · rintro i d e hd ⟨_, x3, rfl⟩
    obtain ⟨r, hr, rfl⟩ := rowGet hd
    obtain ⟨hs, _⟩ := hR r (List.mem_of_getElem? hr)
    have h1 : 1 ≤ lcmW 1 (rows.take i) := lcmW_pos _ _ (Nat.le_refl _)
    have h2 : lcmW 1 (rows.take i) ≤ 57600 := Nat.le_trans (Nat.le_of_dvd (lcmW_pos rows 1 (Nat.le_refl _)) lcmW_take) (by omega)
    refine ⟨_, rfl, _, _, lcmB2 hs h1 h2, rfl, rfl, some r.d, ?_⟩
    rw [take_snoc hr, lcmW_app]
    rfl
  rintro e ⟨_, x3, rfl⟩
  rw [List.length_map, List.take_length, ← hWe]
  walk_at "nx"
  refine w_seq (w_setO (w_rngF1 ?_))
  walk_at "vc"
  refine nat_i (by omega) fun n hn => ⟨by omega, ?_⟩
  have hn2 : n = 2 * W := by omega
  subst hn2
  walk_at "nx"
  refine w_seq (w_forM (fun es i e => es = rows.map Row.d ∧ ∃ (xs : List D) (x5 x6 x7 x8 x9 x10 : Option D), e = [some (.tup (rs.map Row.d)), some (.tup (ls.map Row.d)), some (.int W), x3, some (.lst xs), x5, x6, x7, x8, x9, x10, none] ∧ Has (Spot W (rows.take i)) xs ∧ xs.length ≤ 2 * W + 115200 * i) ?_)
  walk_at "vc"
  refine o_addT (le_size hl2) ?_
  rw [hsum]
  walk_at "vc"
  refine ⟨⟨rfl, _, _, _, _, _, _, _, rfl, ⟨fun d hd => ?_, fun x hx => ?_⟩, by rw [rngL_len]; omega⟩, ?_, ?_⟩
  · obtain ⟨j, hj⟩ := List.getElem?_of_mem hd
    obtain ⟨rfl, hj2⟩ := rngL_mem hj
    exact ⟨j, rfl, .inl hj2⟩
  · rcases hx with hx | ⟨r, hr, _⟩ | ⟨y, ⟨r, hr, _⟩, _⟩
    · refine List.mem_of_getElem? (i := x) ?_
      rw [rngL_get, if_pos hx, Int.zero_add]
    · rw [List.take_zero] at hr
      cases hr
    · rw [List.take_zero] at hr
      cases hr
  · rintro i d e hd ⟨_, xs, x5, x6, x7, x8, x9, x10, rfl, hH, hxl⟩
    obtain ⟨r, hr, rfl⟩ := rowGet hd
    obtain ⟨hs, ha, hb, hp⟩ := hR r (List.mem_of_getElem? hr)
    have hi : i < 120 := by
      have := (List.getElem?_eq_some_iff.mp hr).1
      omega
    have htl : turnsR W r ≤ 57600 := turns_le hW
    unfold Row.d
    walk_at "st"
    walk_at "st"
    walk_at "nx"
    refine w_seq (Wp.mono (P := fun fl e => fl = Fl.nx ∧ ∃ bs, e = [some (.tup (rs.map Row.d)), some (.tup (ls.map Row.d)), some (.int W), x3, some (.lst xs), some (.int r.a), some (.int r.s), some (.int r.b), some (.int r.p), some (.lst bs), x10, none] ∧ Begins W r bs) ?_ ?_)
    · refine w_if ?_
      walk_at "vc"
      refine if_d (fun h0 => ?_) (fun h0 => ?_)
      · refine w_setO (w_lcM (fun _ d q => ∀ t : Nat, d = .int t → q = .int ((r.a + r.s * t : Nat) : Int)) (Nat.le_of_ble_eq_true rfl) ?_)
        have e1 : turnsR W r = W / r.s := by unfold turnsR; rw [if_neg (by omega)]
        have e3 : stepR W r = r.s := by unfold stepR; rw [if_neg (by omega)]
        walk_at "vc"
        have e2 : (W : Int) / (r.s : Int) = ((turnsR W r : Nat) : Int) := by rw [e1]; rfl
        rw [e2]
        walk_at "vc"
        refine ⟨by omega, rfl, by rw [rngL_len]; exact Nat.le_trans htl (by decide), fun d hd => ?_, fun qs hq1 hq2 => ?_⟩
        · obtain ⟨j, hj⟩ := List.getElem?_of_mem hd
          obtain ⟨rfl, hj2⟩ := rngL_mem hj
          walk_at "vc"
          refine ⟨rfl, fun t ht => ?_⟩
          injection ht with ht
          rw [ht, Int.natCast_add, Int.natCast_mul]
        · rw [rngL_len] at hq1
          refine ⟨rfl, qs, rfl, hq1, fun t d ht => ?_⟩
          have hlt : t < turnsR W r := by
            have := (List.getElem?_eq_some_iff.mp ht).1
            omega
          rw [e3]
          exact hq2 t _ d (by rw [rngL_get, if_pos hlt, Int.zero_add]) ht t rfl
      · walk_at "vc"
        have h0' : r.s = 0 := by omega
        have e1 : turnsR W r = 2 := by unfold turnsR; rw [if_pos h0']
        have e3 : stepR W r = W := by unfold stepR; rw [if_pos h0']
        refine ⟨rfl, _, rfl, e1.symm, fun t d ht => ?_⟩
        rw [e3]
        match t, ht with
        | 0, ht =>
          cases ht
          rfl
        | 1, ht =>
          cases ht
          show D.int _ = D.int _
          congr 1
          omega
    · rintro _ _ ⟨rfl, bs, rfl, hb1, hb2⟩
      walk_at "nx"
      refine w_forM (fun es j e => es = bs ∧ ∃ (xs : List D) (x10 : Option D), e = [some (.tup (rs.map Row.d)), some (.tup (ls.map Row.d)), some (.int W), x3, some (.lst xs), some (.int r.a), some (.int r.s), some (.int r.b), some (.int r.p), some (.lst bs), x10, none] ∧ Has (SpIn W rows i r j) xs ∧ xs.length ≤ 2 * W + 115200 * i + 2 * j) ?_
      walk_at "vc"
      refine ⟨⟨rfl, xs, _, rfl, hH.iff spIn_zero, hxl⟩, ?_, ?_⟩
      · rintro j d e hd ⟨_, xs, x10, rfl, hH, hxl⟩
        have hj : j < turnsR W r := by
          have := (List.getElem?_eq_some_iff.mp hd).1
          omega
        have ed := hb2 j d hd
        subst ed
        walk_at "vc"
        refine w_extS ?_
        walk_at "vc"
        refine ⟨Nat.le_trans (show xs.length + 2 ≤ 15000000 by omega) (by decide), ?_⟩
        refine ⟨rfl, rfl, _, _, rfl, ?_, by rw [List.length_append]; simp only [List.length_cons, List.length_nil]; omega⟩
        have h2 := (hH.two (a := r.a + stepR W r * j) (b := r.a + stepR W r * j + W)).iff spIn_succ
        rw [Int.natCast_add (r.a + stepR W r * j) W] at h2
        exact h2
      · rintro e ⟨_, xs, x10, rfl, hH, hxl⟩
        rw [hb1] at hH hxl
        exact ⟨rfl, rfl, xs, _, _, _, _, _, _, rfl, hH.iff (spIn_done hr), by omega⟩
  · rintro e ⟨_, xs, x5, x6, x7, x8, x9, x10, rfl, hH, hxl⟩
    rw [List.length_map] at hH hxl
    rw [List.take_length] at hH
    walk_at "nx"
    walk_at "vc"
    exact ⟨xs, rfl, hH, by omega⟩
theorem law_alike_eq (rs ls : List Row) (hR : ∀ r ∈ rs ++ ls, RowB r) (hl : (rs ++ ls).length ≤ 120) (hW : lcmR (rs ++ ls) ≤ 57600) : F__law_are_alike [.tup (rs.map Row.d), .tup (ls.map Row.d)] = .ok (.bl (alikeB (lcmR (rs ++ ls)) (rs ++ ls) rs ls)) := by
  have hR1 : ∀ r ∈ rs, RowB r := fun r hr => hR r (List.mem_append_left _ hr)
  have hR2 : ∀ r ∈ ls, RowB r := fun r hr => hR r (List.mem_append_right _ hr)
  refine o_out ?_
  unfold F__law_are_alike
  refine w_runB (e0 := [some (.tup (rs.map Row.d)), some (.tup (ls.map Row.d)), none]) rfl ?_
  unfold m__law_are_alike
  refine w_ret (w_callD (w_consA (w_asL (w_lcMap (fun _ d => .bl (qB rs ls d)) (Nat.le_of_ble_eq_true rfl) ?_))))
  walk_at "vc"
  refine (spots_eq rs ls hR hl hW).mono ?_
  rintro _ ⟨xs, rfl, hH, hxl⟩
  walk_at "vc"
  refine ⟨rfl, Nat.le_trans hxl (by decide), fun d hd => ?_, ?_⟩
  · obtain ⟨x, rfl, hx⟩ := hH.1 d hd
    have hlt : x < 2 ^ 300 := spot_lt hR hW hx
    walk_at "vc"
    refine o_eq (law_room_eq rs x hR1 hlt) ?_
    walk_at "vc"
    refine o_eq (law_room_eq ls x hR2 hlt) ?_
    refine o_eqO _ _ ?_
    exact ⟨rfl, rfl⟩
  · walk_at "vc"
    refine o_all ?_
    walk_at "vc"
    rw [all_spots hH.1 hH.2]
end Gk71

namespace Gk71
open PySem PySem.Spec PyProof.Rows L2 Dn
def wordsC : List (Str × Nat) := [("alike", 2), ("unlike", 3)]
theorem lays_rowsB {n k : Nat} {r : D} (hn : n ≤ 100) (h : laysOk r = true) (hs : smallB n k r = true) : ∃ rs : List Row, r = .tup (rs.map Row.d) ∧ (∀ q ∈ rs, RowB q) ∧ rs.length ≤ 60 ∧ lcmR rs ≤ 240 := by
  have hc := small_clean3 hn hs
  cases r with
  | tup ds =>
    rw [laysOk_tup] at h
    simp only [Bool.and_eq_true, decide_eq_true_eq] at h
    simp only [clean3, Bool.and_eq_true, List.all_eq_true, decide_eq_true_eq] at hc
    obtain ⟨rs, rfl, h2⟩ := rows_ex h.1.2 hc.1
    rw [rowsL_map] at h
    refine ⟨rs, rfl, fun q hq => ?_, by have := h.1.1; rwa [List.length_map] at this, h.2.1⟩
    have hx : q.a ≤ 2000000000000000000000000000000000000000000000 ∧ q.b ≤ 2000000000000000000000000000000000000000000000 ∧ q.p ≤ 2000000000000000000000000000000000000000000000 := by
      cases k with
      | zero => cases hs
      | succ k =>
        have h3 := (small_tup.mp hs).2 _ (List.mem_map.mpr ⟨q, hq, rfl⟩)
        cases k with
        | zero => cases h3
        | succ k =>
          have h4 := (small_tup.mp h3).2
          have a1 := small_int.mp (h4 (.int q.a) (by simp))
          have a3 := small_int.mp (h4 (.int q.b) (by simp))
          have a4 := small_int.mp (h4 (.int q.p) (by simp))
          omega
    have big : 2000000000000000000000000000000000000000000000 < 2 ^ 200 := by decide
    exact ⟨(h2 q hq).1, by omega, by omega, by omega⟩
  | _ => cases h
theorem lcmR_app (rs ls : List Row) (h1 : lcmR rs ≤ 240) (h2 : lcmR ls ≤ 240) : lcmR (rs ++ ls) ≤ 57600 := by
  have key : ∀ (ns : List Nat) (L : Nat), ns.foldl Nat.lcm L = Nat.lcm L (ns.foldl Nat.lcm 1) := fun ns => by
    induction ns with
    | nil => intro L; exact (Nat.lcm_one_right L).symm
    | cons n ns ih =>
      intro L
      rw [List.foldl_cons, List.foldl_cons, ih, ih (Nat.lcm 1 n), Nat.lcm_one_left, Nat.lcm_assoc]
  unfold lcmR at *
  rw [List.map_append, List.filter_append, List.foldl_append, key]
  exact Nat.le_trans (Nat.le_trans (Nat.div_le_self _ _) (Nat.mul_le_mul h1 h2)) (by decide)
theorem fault_eq {n k : Nat} {r : D} (hn : n ≤ 100) (hs : smallB n k r = true) : ∃ q : List D, F__law_fault [r] = .ok (.tup q) ∧ q.isEmpty = laysOk r := law_fault_eq r (small_clean3 hn hs)
theorem lays_eq {n k : Nat} {r : D} (hn : n ≤ 100) (hs : smallB n k r = true) : F_is_laying [r] = .ok (.bl (laysOk r)) := is_laying_eq r (small_clean3 hn hs)
/-- the two judgements of two layings -/
theorem alike_both {n k : Nat} {r l : D} (hn : n ≤ 100) (hr : smallB n k r = true) (hl : smallB n k l = true) (h1 : laysOk r = true) (h2 : laysOk l = true) : ∃ b : Bool, F_lead_alike [r, l] = .ok (.bl b) ∧ F__law_are_alike [r, l] = .ok (.bl b) := by
  obtain ⟨rs, rfl, hR1, hn1, hw1⟩ := lays_rowsB hn h1 hr
  obtain ⟨ls, rfl, hR2, hn2, hw2⟩ := lays_rowsB hn h2 hl
  have hR : ∀ q ∈ rs ++ ls, RowB q := fun q hq => (List.mem_append.mp hq).elim (hR1 q) (hR2 q)
  have hlen : (rs ++ ls).length ≤ 120 := by rw [List.length_append]; omega
  have hW := lcmR_app rs ls hw1 hw2
  exact ⟨_, lead_alike_eq rs ls hR hlen hW, law_alike_eq rs ls hR hlen hW⟩
theorem o_neO (a b : Option Nat) {Q : D → Prop} (q : Q (.bl (!decide (a = b)))) : Ok (neD (optN a) (optN b)) Q := by
  cases a with
  | none =>
    cases b with
    | none => exact ⟨_, rfl, q⟩
    | some n => exact ⟨_, rfl, by simpa using q⟩
  | some m =>
    cases b with
    | none => exact ⟨_, rfl, by simpa using q⟩
    | some n =>
      refine ⟨_, rfl, ?_⟩
      have e : (((m : Nat) : Int) == ((n : Nat) : Int)) = decide (some m = some n) := by
        by_cases h : m = n
        · subst h
          simp
        · have h2 : (((m : Nat) : Int) == ((n : Nat) : Int)) = false := by
            rw [beq_eq_false_iff_ne]
            omega
          rw [h2, decide_eq_false (fun z => h (by injection z))]
      rw [e]
      exact q
theorem room_both {n k : Nat} {r x : D} (hn : n ≤ 100) (hr : smallB n k r = true) (hx : smallB n k x = true) (h1 : laysOk r = true) (h2 : whole x = true) : ∃ o : Option Nat, F_room_at [r, x] = .ok (optN o) ∧ F__law_room [r, x] = .ok (optN o) := by
  obtain ⟨rs, rfl, hR, _⟩ := lays_rowsB hn h1 hr
  obtain ⟨m, rfl⟩ := whole_int h2
  have hm := small_int.mp hx
  have big : 1000000000000000000000000000000000000000000000 + 200 < 2 ^ 300 := by decide
  have hlt : m < 2 ^ 300 := by omega
  exact ⟨_, room_at_eq rs m hR hlt, law_room_eq rs m hR hlt⟩
/-! ### the claims, by the program -/
theorem alike_claim {n k : Nat} {r l sh : D} (hn : n ≤ 100) (hr : smallB n k r = true) (hl : smallB n k l = true) : ∃ b : Bool, F_are_alike [.tup [r, l], sh] = .ok (.bl b) ∧ (b = true ↔ (laysOk r = true ∧ laysOk l = true ∧ sh = .non ∧ F__law_are_alike [r, l] = .ok (.bl true))) ∧ (laysOk r = true → laysOk l = true → sh = .non → F__law_are_alike [r, l] = .ok (.bl b)) := by
  have key : ∀ b : Bool, Ok (F_are_alike [.tup [r, l], sh]) (fun d => d = .bl b) → F_are_alike [.tup [r, l], sh] = .ok (.bl b) := fun b h => o_out h
  by_cases h1 : laysOk r = true
  · by_cases h2 : laysOk l = true
    · obtain ⟨b, e1, e2⟩ := alike_both hn hr hl h1 h2
      by_cases h3 : sh = .non
      · subst h3
        refine ⟨b, key b ?_, ?_, fun _ _ _ => e2⟩
        · unfold F_are_alike
          refine w_runB (e0 := [some (.tup [r, l]), some .non]) rfl ?_
          unfold m_are_alike
          walk_at "vc"
          refine o_eq (lays_eq hn hr) ?_
          rw [h1]
          walk_at "vc"
          refine o_eq (lays_eq hn hl) ?_
          rw [h2]
          walk_at "vc"
          refine o_isN (fun _ => ?_) (fun z => absurd rfl z)
          walk_at "vc"
          refine o_eq e1 ?_
          walk_at "vc"
          rfl
        · constructor
          · rintro rfl
            exact ⟨h1, h2, rfl, e2⟩
          · rintro ⟨_, _, _, h⟩
            rw [e2] at h
            injection h with h
            injection h
      · refine ⟨false, key false ?_, ⟨fun z => (by cases z), fun z => absurd z.2.2.1 h3⟩, fun _ _ z => absurd z h3⟩
        unfold F_are_alike
        refine w_runB (e0 := [some (.tup [r, l]), some sh]) rfl ?_
        unfold m_are_alike
        walk_at "vc"
        refine o_eq (lays_eq hn hr) ?_
        rw [h1]
        walk_at "vc"
        refine o_eq (lays_eq hn hl) ?_
        rw [h2]
        walk_at "vc"
        refine o_isN (fun z => absurd z h3) (fun _ => ?_)
        walk_at "vc"
        rfl
    · refine ⟨false, key false ?_, ⟨fun z => (by cases z), fun z => absurd z.2.1 h2⟩, fun _ z => absurd z h2⟩
      unfold F_are_alike
      refine w_runB (e0 := [some (.tup [r, l]), some sh]) rfl ?_
      unfold m_are_alike
      walk_at "vc"
      refine o_eq (lays_eq hn hr) ?_
      rw [h1]
      walk_at "vc"
      refine o_eq (lays_eq hn hl) ?_
      rw [Bool.eq_false_iff.mpr h2]
      walk_at "vc"
      rfl
  · refine ⟨false, key false ?_, ⟨fun z => (by cases z), fun z => absurd z.1 h1⟩, fun z => absurd z h1⟩
    unfold F_are_alike
    refine w_runB (e0 := [some (.tup [r, l]), some sh]) rfl ?_
    unfold m_are_alike
    walk_at "vc"
    refine o_eq (lays_eq hn hr) ?_
    rw [Bool.eq_false_iff.mpr h1]
    walk_at "vc"
    rfl
theorem unlike_claim {n k : Nat} {r l x sh : D} (hn : n ≤ 100) (hr : smallB n k r = true) (hl : smallB n k l = true) (hx : smallB n k x = true) : ∃ b : Bool, F_are_unlike [.tup [r, l, x], sh] = .ok (.bl b) ∧ (b = true → laysOk r = true ∧ laysOk l = true ∧ whole x = true ∧ sh = .non) ∧
    (laysOk r = true → laysOk l = true → whole x = true → sh = .non → ∃ o1 o2 : Option Nat, F__law_room [r, x] = .ok (optN o1) ∧ F__law_room [l, x] = .ok (optN o2) ∧ b = !decide (o1 = o2)) := by
  have hw : F_is_count [x, .int 0, .non] = .ok (.bl (whole x)) := is_count_eq x (small_clean1 hn hx)
  have start : ∀ Q : D → Prop, Wp m_are_unlike [some (.tup [r, l, x]), some sh, none, none, none] (OutW false Q) → Ok (F_are_unlike [.tup [r, l, x], sh]) Q := fun Q h => w_runB rfl h
  by_cases h1 : laysOk r = true
  · by_cases h2 : laysOk l = true
    · by_cases h4 : whole x = true
      · obtain ⟨o1, e1, f1⟩ := room_both hn hr hx h1 h4
        obtain ⟨o2, e2, f2⟩ := room_both hn hl hx h2 h4
        by_cases h3 : sh = .non
        · refine ⟨!decide (o1 = o2), o_out (start _ ?_), fun _ => ⟨h1, h2, h4, h3⟩, fun _ _ _ _ => ⟨o1, o2, f1, f2, rfl⟩⟩
          subst h3
          unfold m_are_unlike
          walk_at "vc"
          refine o_eq (lays_eq hn hr) ?_
          rw [h1]
          walk_at "vc"
          refine o_eq (lays_eq hn hl) ?_
          rw [h2]
          walk_at "vc"
          refine o_eq hw ?_
          rw [h4]
          walk_at "vc"
          refine o_isNN (fun _ => ?_) (fun z => absurd rfl z)
          walk_at "vc"
          refine o_eq e1 ?_
          walk_at "vc"
          refine o_eq e2 ?_
          refine o_neO _ _ ?_
          rfl
        · refine ⟨false, o_out (start _ ?_), fun z => (by cases z), fun _ _ _ z => absurd z h3⟩
          unfold m_are_unlike
          walk_at "vc"
          refine o_eq (lays_eq hn hr) ?_
          rw [h1]
          walk_at "vc"
          refine o_eq (lays_eq hn hl) ?_
          rw [h2]
          walk_at "vc"
          refine o_eq hw ?_
          rw [h4]
          walk_at "vc"
          refine o_isNN (fun z => absurd z h3) (fun _ => ?_)
          walk_at "vc"
          rfl
      · refine ⟨false, o_out (start _ ?_), fun z => (by cases z), fun _ _ z => absurd z h4⟩
        unfold m_are_unlike
        walk_at "vc"
        refine o_eq (lays_eq hn hr) ?_
        rw [h1]
        walk_at "vc"
        refine o_eq (lays_eq hn hl) ?_
        rw [h2]
        walk_at "vc"
        refine o_eq hw ?_
        rw [Bool.eq_false_iff.mpr h4]
        walk_at "vc"
        rfl
    · refine ⟨false, o_out (start _ ?_), fun z => (by cases z), fun _ z => absurd z h2⟩
      unfold m_are_unlike
      walk_at "vc"
      refine o_eq (lays_eq hn hr) ?_
      rw [h1]
      walk_at "vc"
      refine o_eq (lays_eq hn hl) ?_
      rw [Bool.eq_false_iff.mpr h2]
      walk_at "vc"
      rfl
  · refine ⟨false, o_out (start _ ?_), fun z => (by cases z), fun z => absurd z h1⟩
    unfold m_are_unlike
    walk_at "vc"
    refine o_eq (lays_eq hn hr) ?_
    rw [Bool.eq_false_iff.mpr h1]
    walk_at "vc"
    rfl
end Gk71

namespace Gk71
open PySem PySem.Spec PyProof.Rows L2 Dn
theorem cut1 (w : D) (r : List D) : cutG (w :: r) (some 1) none = r := by
  rw [show (1 : Int) = ((1 : Nat) : Int) from rfl, cut_drop]
  rfl
theorem judged {n k w : Nat} {ds : List D} {sh : D} (hn : n ≤ 100) (hs : Parts wordsC n k w ds) (hh : Sm n k w sh) : ∃ t : Bool, F_holds [.tup ds, sh] = .ok (.bl t) ∧ F__law_due [.tup ds, sh] = .ok (.bl t) := by
  obtain ⟨v, rest, rfl, hw, hr⟩ := hs
  have hw2 : (v = "alike" ∧ rest.length = 2) ∨ (v = "unlike" ∧ rest.length = 3) := by
    unfold wordsC at hw
    simp only [List.mem_cons, Prod.mk.injEq, List.not_mem_nil, or_false] at hw
    exact hw
  rcases hw2 with ⟨rfl, hl⟩ | ⟨rfl, hl⟩
  · match rest, hl with
    | [r, l], _ =>
      have sr := (hr r (by simp)).1
      have sl := (hr l (by simp)).1
      obtain ⟨b, e1, e2, e3⟩ := alike_claim (sh := sh) hn sr sl
      obtain ⟨q1, f1, g1⟩ := fault_eq hn sr
      obtain ⟨q2, f2, g2⟩ := fault_eq hn sl
      refine ⟨b, o_out ?_, o_out ?_⟩
      · unfold F_holds
        refine w_runB (e0 := [some (.tup [.str "alike", r, l]), some sh, none, none]) rfl ?_
        unfold m_holds
        walk_at "vc"
        refine o_truT ?_
        walk_at "vc"
        refine if_f ?_
        walk_at "vc"
        refine o_eq (a := D.bl false) rfl ?_
        walk_at "vc"
        refine o_eq (a := D.tup [.int 3, .fn 0]) rfl ?_
        walk_at "vc"
        refine if_e (fun _ => ?_) (fun z => absurd rfl z)
        refine w_calA rfl rfl ?_
        walk_at "vc"
        rw [cut1]
        walk_at "vc"
        exact o_eq e1 rfl
      · unfold F__law_due
        refine w_runB (e0 := [some (.tup [.str "alike", r, l]), some sh]) rfl ?_
        unfold m__law_due
        walk_at "vc"
        refine o_isNN (fun h3 => ?_) (fun h3 => ?_)
        · walk_at "vc"
          refine o_eq f1 ?_
          walk_at "vc"
          refine o_neT0 ?_
          rw [g1]
          cases h1 : laysOk r with
          | false =>
            walk_at "vc"
            cases b with
            | false => rfl
            | true => rw [(e2.mp rfl).1] at h1; cases h1
          | true =>
            walk_at "vc"
            refine o_eq f2 ?_
            walk_at "vc"
            refine o_neT0 ?_
            rw [g2]
            cases h2 : laysOk l with
            | false =>
              walk_at "vc"
              cases b with
              | false => rfl
              | true => rw [(e2.mp rfl).2.1] at h2; cases h2
            | true =>
              walk_at "vc"
              refine o_eqS ?_
              rw [show (Str.ofString "alike" == Str.ofString "alike") = true from by decide]
              walk_at "vc"
              exact o_eq (e3 h1 h2 h3) rfl
        · walk_at "vc"
          cases b with
          | false => rfl
          | true => exact absurd (e2.mp rfl).2.2.1 h3
  · match rest, hl with
    | [r, l, x], _ =>
      have sr := (hr r (by simp)).1
      have sl := (hr l (by simp)).1
      have sx := (hr x (by simp)).1
      obtain ⟨b, e1, e2, e3⟩ := unlike_claim (sh := sh) hn sr sl sx
      obtain ⟨q1, f1, g1⟩ := fault_eq hn sr
      obtain ⟨q2, f2, g2⟩ := fault_eq hn sl
      have hwh : F__law_whole [x] = .ok (.bl (whole x)) := whole_eq x (small_clean1 hn sx)
      refine ⟨b, o_out ?_, o_out ?_⟩
      · unfold F_holds
        refine w_runB (e0 := [some (.tup [.str "unlike", r, l, x]), some sh, none, none]) rfl ?_
        unfold m_holds
        walk_at "vc"
        refine o_truT ?_
        walk_at "vc"
        refine if_f ?_
        walk_at "vc"
        refine o_eq (a := D.bl false) rfl ?_
        walk_at "vc"
        refine o_eq (a := D.tup [.int 4, .fn 1]) rfl ?_
        walk_at "vc"
        refine if_e (fun _ => ?_) (fun z => absurd rfl z)
        refine w_calA rfl rfl ?_
        walk_at "vc"
        rw [cut1]
        walk_at "vc"
        exact o_eq e1 rfl
      · unfold F__law_due
        refine w_runB (e0 := [some (.tup [.str "unlike", r, l, x]), some sh]) rfl ?_
        unfold m__law_due
        walk_at "vc"
        refine o_isNN (fun h3 => ?_) (fun h3 => ?_)
        · walk_at "vc"
          refine o_eq f1 ?_
          walk_at "vc"
          refine o_neT0 ?_
          rw [g1]
          cases h1 : laysOk r with
          | false =>
            walk_at "vc"
            cases b with
            | false => rfl
            | true => rw [(e2 rfl).1] at h1; cases h1
          | true =>
            walk_at "vc"
            refine o_eq f2 ?_
            walk_at "vc"
            refine o_neT0 ?_
            rw [g2]
            cases h2 : laysOk l with
            | false =>
              walk_at "vc"
              cases b with
              | false => rfl
              | true => rw [(e2 rfl).2.1] at h2; cases h2
            | true =>
              walk_at "vc"
              refine o_eqS ?_
              rw [show (Str.ofString "unlike" == Str.ofString "alike") = false from by decide]
              walk_at "vc"
              refine o_eq hwh ?_
              cases h4 : whole x with
              | false =>
                walk_at "vc"
                cases b with
                | false => rfl
                | true => rw [(e2 rfl).2.2.1] at h4; cases h4
              | true =>
                walk_at "vc"
                obtain ⟨o1, o2, r1, r2, hb⟩ := e3 h1 h2 h4 h3
                refine o_eq r1 ?_
                walk_at "vc"
                refine o_eq r2 ?_
                refine o_neO _ _ ?_
                rw [← hb]
                walk_at "vc"
                rfl
        · walk_at "vc"
          cases b with
          | false => rfl
          | true => exact absurd (e2 rfl).2.2.2 h3
theorem taken_of {ds : List D} {sh : D} {b : Bool} (hh' : F_holds [.tup ds, sh] = .ok (.bl b)) : F__law_taken [.tup ds, sh, .bl b] = .ok (.bl true) := by
  refine o_out ?_
  unfold F__law_taken
  refine w_runB (e0 := [some (.tup ds), some sh, some (.bl b), none, none]) rfl ?_
  unfold m__law_taken
  walk_at "vc"
  refine o_eq hh' ?_
  walk_at "vc"
  refine o_eq hh' ?_
  walk_at "vc"
  refine w_lcMap (fun _ _ => .bl true) (Nat.le_of_ble_eq_true rfl) ?_
  walk_at "vc"
  refine ⟨rfl, Nat.le_of_ble_eq_true rfl, fun d hd => ?_, ?_⟩
  · have : d = .bl b := by simpa using hd
    subst this
    walk_at "vc"
    refine o_eqB ?_
    exact ⟨rfl, by simp⟩
  · walk_at "vc"
    refine o_eq (a := D.bl true) rfl ?_
    walk_at "vc"
    rfl
theorem due_taken {n k w : Nat} {ds : List D} {sh : D} (hn : n ≤ 100) (hs : Parts wordsC n k w ds) (hh : Sm n k w sh) : ∃ t : Bool, F__law_due [.tup ds, sh] = .ok (.bl t) ∧ F__law_taken [.tup ds, sh, .bl t] = .ok (.bl true) := by
  obtain ⟨t, h1, h2⟩ := judged hn hs hh
  exact ⟨t, h2, taken_of h1⟩
/-- the far away claim -/
def dR1 : List Row := [⟨100000000000000000000000000000000000000000000000000, 1, 100000000000000000000000000000000000000000000000000, 1⟩, ⟨99999999999999999999999999999999999999999999999999, 0, 99999999999999999999999999999999999999999999999999, 0⟩]
def dR2 : List Row := [⟨99999999999999999999999999999999999999999999999999, 1, 99999999999999999999999999999999999999999999999999, 1⟩]
theorem room_all (M x : Nat) : room1 ⟨M, 1, M, 1⟩ x = if M ≤ x then some x else none := by
  unfold room1
  by_cases h : M ≤ x
  · rw [if_neg (fun z => absurd z.1 Nat.one_ne_zero), if_pos ⟨Nat.one_pos, h, Nat.mod_one _⟩, if_pos h]
    show some (M + 1 * ((x - M) / 1)) = some x
    rw [Nat.div_one, Nat.one_mul, Nat.add_sub_cancel' h]
  · rw [if_neg (fun z => absurd z.1 Nat.one_ne_zero), if_neg (fun z => h z.2.1), if_neg h]
theorem room_one (M x : Nat) : room1 ⟨M, 0, M, 0⟩ x = if M = x then some M else none := by
  unfold room1
  by_cases h : M = x
  · rw [if_pos ⟨rfl, h⟩, if_pos h]
  · rw [if_neg (fun z => h z.2), if_neg (fun z => absurd z.1 (Nat.lt_irrefl 0)), if_neg h]
theorem distant_gen (N x : Nat) : roomR [⟨N + 1, 1, N + 1, 1⟩, ⟨N, 0, N, 0⟩] x = roomR [⟨N, 1, N, 1⟩] x := by
  simp only [roomR, room_all, room_one]
  by_cases h1 : N + 1 ≤ x
  · rw [if_pos h1, if_pos (show N ≤ x by omega)]
  · rw [if_neg h1]
    by_cases h2 : N = x
    · rw [if_pos h2, if_pos (show N ≤ x by omega), h2]
    · rw [if_neg h2, if_neg (show ¬ N ≤ x by omega)]
theorem distant_room (x : Nat) : roomR dR1 x = roomR dR2 x := distant_gen 99999999999999999999999999999999999999999999999999 x
theorem distant_lead : F_lead_alike [.tup (dR1.map Row.d), .tup (dR2.map Row.d)] = .ok (.bl true) := by
  have hR : ∀ r ∈ dR1 ++ dR2, RowB r := by
    intro r hr
    simp only [dR1, dR2, List.cons_append, List.nil_append, List.mem_cons, List.not_mem_nil, or_false] at hr
    have big : 100000000000000000000000000000000000000000000000000 < 2 ^ 200 := by decide
    rcases hr with rfl | rfl | rfl <;> exact ⟨by decide, by decide, by decide, by decide⟩
  have hW : lcmR (dR1 ++ dR2) ≤ 57600 := by decide +kernel
  rw [lead_alike_eq dR1 dR2 hR (by decide) hW]
  congr 2
  unfold alikeB
  exact @decide_eq_true _ (_) fun x _ => distant_room x
theorem distant_ok : F_holds [.tup [.str "alike", .tup (dR1.map Row.d), .tup (dR2.map Row.d)], .non] = .ok (.bl true) := by
  have c1 : clean3 (.tup (dR1.map Row.d)) = true := by decide +kernel
  have c2 : clean3 (.tup (dR2.map Row.d)) = true := by decide +kernel
  have l1 : laysOk (.tup (dR1.map Row.d)) = true := by decide +kernel
  have l2 : laysOk (.tup (dR2.map Row.d)) = true := by decide +kernel
  have e1 : F_are_alike [.tup [.tup (dR1.map Row.d), .tup (dR2.map Row.d)], .non] = .ok (.bl true) := by
    refine o_out ?_
    unfold F_are_alike
    refine w_runB (e0 := [some (.tup [.tup (dR1.map Row.d), .tup (dR2.map Row.d)]), some .non]) rfl ?_
    unfold m_are_alike
    walk_at "vc"
    refine o_eq (is_laying_eq _ c1) ?_
    rw [l1]
    walk_at "vc"
    refine o_eq (is_laying_eq _ c2) ?_
    rw [l2]
    walk_at "vc"
    refine o_isN (fun _ => ?_) (fun z => absurd rfl z)
    walk_at "vc"
    refine o_eq distant_lead ?_
    walk_at "vc"
    rfl
  refine o_out ?_
  unfold F_holds
  refine w_runB (e0 := [some (.tup [.str "alike", .tup (dR1.map Row.d), .tup (dR2.map Row.d)]), some .non, none, none]) rfl ?_
  unfold m_holds
  walk_at "vc"
  refine o_truT ?_
  walk_at "vc"
  refine if_f ?_
  walk_at "vc"
  refine o_eq (a := D.bl false) rfl ?_
  walk_at "vc"
  refine o_eq (a := D.tup [.int 3, .fn 0]) rfl ?_
  walk_at "vc"
  refine if_e (fun _ => ?_) (fun z => absurd rfl z)
  refine w_calA rfl rfl ?_
  walk_at "vc"
  rw [cut1]
  walk_at "vc"
  exact o_eq e1 rfl
end Gk71

namespace Gk71
open PySem PySem.Spec PyProof.Rows L2 Dn
theorem w_stepE {f : MD D} {lo hi st : MD (Option Int)} {e : Lc} {Q : D → Lc → Prop} (h : Wp f e fun d e1 => Wp lo e1 fun l e2 => Wp hi e2 fun u e3 => Wp st e3 fun k e4 => Ok (stepD l u k d) fun r => Q r e4) : Wp (stepE f lo hi st) e Q := by
  obtain ⟨d, e1, h1, l, e2, h2, u, e3, h3, k, e4, h4, r, h5, h6⟩ := h
  exact ⟨r, e4, by simp only [stepE, h1, h2, h3, h4, h5, R.bind_ok, R.at_ok], h6⟩
theorem o_eqT0 {k : Nat} {ds : List D} {Q : D → Prop} (h : ∀ d ∈ ds, PyOk k d) (hk : k < 64) (q : Q (.bl ds.isEmpty)) : Ok (eqD (.tup ds) (.tup [])) Q := by
  obtain ⟨xs, h1, h2, h3, h4⟩ := pys_ok h
  obtain ⟨p, h5, h6⟩ := (PyOk.tup h).shaped hk
  have e1 : D.py (.tup ds) = some (.tuple xs) := by unfold D.py; rw [h1]
  rw [h5] at e1
  cases e1
  refine ⟨_, ?_, q⟩
  unfold eqD
  have : scalD (.tup ds) (.tup []) = none := rfl
  rw [this]
  simp only []
  rw [h5]
  have e2 : D.py (.tup []) = some (.tuple []) := rfl
  rw [e2]
  simp only []
  have e3 : SeqAt.shaped (.tuple []) = true := rfl
  rw [h6, e3]
  have e4 : PyData.eqv (.tuple xs) (.tuple []) = ds.isEmpty := by
    cases ds with
    | nil =>
      have : xs = [] := List.length_eq_zero_iff.mp h4
      subst this
      rfl
    | cons d ds =>
      cases xs with
      | nil => cases h4
      | cons x xs => rfl
  rw [e4]
  rfl
/-! ### rows told otherwise -/
def RowN (B : Int) (d : D) : Prop := ∃ a s b p : Int, d = .tup [.int a, .int s, .int b, .int p] ∧ (0 ≤ a ∧ a ≤ B) ∧ (0 ≤ s ∧ s ≤ B) ∧ (0 ≤ b ∧ b ≤ B) ∧ (0 ≤ p ∧ p ≤ B)
theorem RowN.mono {B C : Int} {d : D} (h : RowN B d) (hc : B ≤ C) : RowN C d := by
  obtain ⟨a, s, b, p, rfl, h⟩ := h
  exact ⟨a, s, b, p, rfl, by omega, by omega, by omega, by omega⟩
theorem RowN.py {B : Int} {d : D} (h : RowN B d) : PyOk 3 d := by
  obtain ⟨a, s, b, p, rfl, _⟩ := h
  exact PyOk.tup (k := 2) (all4 .int .int .int .int)
theorem RowS.toN {d : D} (h : RowS d) : RowN 1000000000000000000000000000000000 d := by
  obtain ⟨a, s, b, p, rfl, h⟩ := h
  exact ⟨a, s, b, p, rfl, by omega, by omega, by omega, by omega⟩
theorem idxL_len : ∀ n : Fin 61, (idxL none none 1 n.val).length ≤ n.val ∧ (idxL none none (-1) n.val).length ≤ n.val := by decide +kernel
theorem pick_mem {α : Type} {is : List Nat} {xs : List α} {x : α} (h : x ∈ pickN is xs) : x ∈ xs := by
  unfold pickN at h
  obtain ⟨i, _, h2⟩ := List.mem_filterMap.mp h
  exact List.mem_of_getElem? h2
theorem step_mem {ds : List D} {k : Int} (hk : k = 1 ∨ k = -1) (hl : ds.length ≤ 60) : ∃ es, stepD none none (some k) (.lst ds) = .ok (.lst es) ∧ (∀ d ∈ es, d ∈ ds) ∧ es.length ≤ ds.length := by
  have hz := idxL_len ⟨ds.length, by omega⟩
  have hl2 : (pickN (idxL none none k ds.length) ds).length ≤ ds.length := by
    have := pick_le ds (idxL none none k ds.length)
    rcases hk with rfl | rfl
    · exact Nat.le_trans this hz.1
    · exact Nat.le_trans this hz.2
  refine ⟨pickN (idxL none none k ds.length) ds, ?_, fun d hd => pick_mem hd, hl2⟩
  unfold stepD
  dsimp only
  rw [if_neg (by omega), if_pos (sz1 (by omega))]
theorem mem3 {P : D → Prop} {ds xs : List D} {i j : Nat} (h : ∀ d ∈ ds, P d) (hx : ∀ d ∈ xs, P d) : ∀ d ∈ ds.take i ++ xs ++ ds.drop j, P d := fun d hd => by
  rcases List.mem_append.mp hd with hd | hd
  · rcases List.mem_append.mp hd with hd | hd
    · exact h d (List.mem_of_mem_take hd)
    · exact hx d hd
  · exact h d (List.mem_of_mem_drop hd)
theorem len3 {ds xs : List D} {i : Nat} (h : i < ds.length) : (ds.take i ++ xs ++ ds.drop (i + 1)).length + 1 = ds.length + xs.length := by
  rw [List.length_append, List.length_append, List.length_take, List.length_drop]
  omega
theorem told_ok {k : Nat} {p : D} {B : Int} {ds : List D} (hp : Purse k p) (hk : k ≤ 700000000) (hB0 : 0 ≤ B) (hB : B ≤ 10000000000000000000000000000000000000000) (hr : ∀ d ∈ ds, RowN B d) (hl : ds.length ≤ 40) :
    OkI (F__law_told_otherwise p [.tup ds]) fun r p' => ∃ es : List D, r = .tup es ∧ (∀ d ∈ es, RowN (4 * B) d) ∧ es.length ≤ ds.length + 3 ∧ Purse (k + 10) p' := by
  unfold F__law_told_otherwise
  refine w_runI (e0 := [some p, some (.tup ds), none, none, none, none, none, none, none, none, none, none]) rfl ?_
  unfold m__law_told_otherwise
  have hr4 : ∀ d ∈ ds, RowN (4 * B) d := fun d hd => (hr d hd).mono (by omega)
  walk_at "st"
  refine o_eqT0 (fun d hd => (hr d hd).py) (by decide) ?_
  by_cases h0 : ds = []
  · subst h0
    rw [show ([] : List D).isEmpty = true from rfl]
    walk_at "vc"
    exact ⟨[], rfl, (fun _ z => by cases z), Nat.zero_le _, hp.le (by omega)⟩
  have hpos : 0 < ds.length := List.length_pos_iff.mpr h0
  rw [show ds.isEmpty = false from by cases ds with | nil => exact absurd rfl h0 | cons a b => rfl]
  walk_at "vc"
  refine (take_ok (n := ds.length) hp (by omega) hpos (by omega)).mono ?_
  rintro _ p1 ⟨i, rfl, hi, hp1⟩
  walk_at "vc"
  refine (take_ok (n := 2) hp1 (by omega) (by omega) (by omega)).mono ?_
  rintro _ p2 ⟨c, rfl, hc, hp2⟩
  walk_at "vc"
  refine (take_ok (n := 4) hp2 (by omega) (by omega) (by omega)).mono ?_
  rintro _ p3 ⟨t, rfl, ht, hp3⟩
  walk_at "vc"
  obtain ⟨row, hrow, hmem⟩ := getSome hi
  refine o_idxT hrow ?_
  obtain ⟨a, s, b, q, rfl, ha, hs, hb, hq⟩ := hr row hmem
  have hrow4 := hr4 _ hmem
  walk_at "vc"
  refine o_idxT hrow ?_
  walk_at "st"
  walk_at "nx"
  rw [show (2 : Int) + (c : Int) = ((c + 2 : Nat) : Int) from by omega]
  have hmk : ∀ (u v : Nat) (s' q' : Int), u ≤ 3 → v ≤ 3 → (0 ≤ s' ∧ s' ≤ 4 * B) → (0 ≤ q' ∧ q' ≤ 4 * B) → RowN (4 * B) (.tup [.int (a + s * u), .int s', .int (b + q * v), .int q']) := fun u v s' q' hu hv hs' hq' => by
    have m1 := mul_le (x := s) (y := (u : Int)) (X := B) (Y := 3) hs.1 hs.2 (by omega) (by omega)
    have m2 := mul_le (x := q) (y := (v : Int)) (X := B) (Y := 3) hq.1 hq.2 (by omega) (by omega)
    exact ⟨_, _, _, _, rfl, by omega, hs', by omega, hq'⟩
  refine w_seq (Wp.mono (P := fun fl e => fl = .nx ∧ ∃ (p : D) (ps : List D), e = [some p, some (.tup ds), some (.int i), some (.int (c + 2 : Nat)), some (.int t), some (.int a), some (.int s), some (.int b), some (.int q), some (.lst ps), none, none] ∧ Purse (k + 5) p ∧ (∀ d ∈ ps, RowN (4 * B) d) ∧ ps.length ≤ 4) ?_ ?_)
  · refine w_if ?_
    walk_at "vc"
    refine if_d (fun h1 => ?_) (fun h1 => ?_)
    · walk_at "vc"
      refine (take_ok (n := 2) hp3 (by omega) (by omega) (by omega)).mono ?_
      rintro _ p4 ⟨y, rfl, hy, hp4⟩
      walk_at "vc"
      refine if_e (fun h2 => ?_) (fun h2 => ?_)
      · refine w_setO (w_lcM (fun _ _ d => RowN (4 * B) d) (Nat.le_of_ble_eq_true rfl) ?_)
        walk_at "vc"
        refine ⟨by omega, rfl, by rw [rngL_len]; exact sz1 (by omega), fun d hd => ?_, fun qs hq1 hq2 => ?_⟩
        · obtain ⟨j, hj⟩ := List.getElem?_of_mem hd
          obtain ⟨rfl, hj2⟩ := rngL_mem hj
          have m3 := mul_le (x := s) (y := ((c + 2 : Nat) : Int)) (X := B) (Y := 3) hs.1 hs.2 (by omega) (by omega)
          have m4 := mul_le (x := q) (y := ((c + 2 : Nat) : Int)) (X := B) (Y := 3) hq.1 hq.2 (by omega) (by omega)
          walk_at "vc"
          exact ⟨rfl, hmk j j _ _ (by omega) (by omega) (by omega) (by omega)⟩
        · rw [rngL_len] at hq1
          refine ⟨rfl, p4, qs, rfl, hp4.le (by omega), fun d hd => ?_, by omega⟩
          obtain ⟨j, hj⟩ := List.getElem?_of_mem hd
          have hj2 := (List.getElem?_eq_some_iff.mp hj).1
          exact hq2 j (.int j) d (by rw [rngL_get, if_pos (by omega), Int.zero_add]) hj
      · refine w_if ?_
        walk_at "vc"
        refine if_d (fun h3 => ?_) (fun h3 => absurd h1 h3)
        refine w_seq (w_setO (w_lcM (fun _ _ d => RowN (4 * B) d) (Nat.le_of_ble_eq_true rfl) ?_))
        walk_at "vc"
        refine ⟨by omega, rfl, by rw [rngL_len]; exact sz1 (by omega), fun d hd => ?_, fun qs hq1 hq2 => ?_⟩
        · obtain ⟨j, hj⟩ := List.getElem?_of_mem hd
          obtain ⟨rfl, hj2⟩ := rngL_mem hj
          walk_at "vc"
          exact ⟨rfl, hmk j j _ _ (by omega) (by omega) (by omega) (by omega)⟩
        · rw [rngL_len] at hq1
          have hqs : ∀ d ∈ qs, RowN (4 * B) d := fun d hd => by
            obtain ⟨j, hj⟩ := List.getElem?_of_mem hd
            have hj2 := (List.getElem?_eq_some_iff.mp hj).1
            exact hq2 j (.int j) d (by rw [rngL_get, if_pos (by omega), Int.zero_add]) hj
          walk_at "nx"
          walk_at "vc"
          refine ⟨lt_size (by omega), ?_⟩
          exact ⟨rfl, p4, _, rfl, hp4.le (by omega), app_ok hqs (hmk t t _ _ (by omega) (by omega) (by omega) (by omega)), by rw [List.length_append, hq1]; simp only [List.length_cons, List.length_nil]; omega⟩
    · walk_at "vc"
      refine if_d (fun h3 => absurd h3 h1) (fun h3 => ?_)
      walk_at "vc"
      exact ⟨rfl, p3, _, rfl, hp3.le (by omega), (fun d hd => by rw [List.mem_singleton.mp hd]; exact hrow4), by show 1 ≤ 4; decide⟩
  · rintro _ _ ⟨rfl, p5, ps, rfl, hp5, hps, hpl⟩
    walk_at "nx"
    refine w_frz ?_
    walk_at "vc"
    rw [cut_take]
    refine o_listT ?_
    walk_at "vc"
    refine o_addL (by rw [List.length_take]; exact le_size (by omega)) ?_
    walk_at "vc"
    rw [show ((i : Int) + 1) = ((i + 1 : Nat) : Int) from rfl, cut_drop]
    refine o_listT ?_
    walk_at "vc"
    refine o_addL (by rw [List.length_append, List.length_take, List.length_drop]; exact le_size (by omega)) ?_
    walk_at "vc"
    have h3 := mem3 (i := i) (j := i + 1) hr4 hps
    have hl3 := len3 (xs := ps) hi
    refine w_stepE ?_
    walk_at "vc"
    refine o_neg ?_
    walk_at "vc"
    refine (take_ok (n := 2) hp5 (by omega) (by omega) (by omega)).mono ?_
    rintro _ p6 ⟨y6, rfl, hy6, hp6⟩
    walk_at "vc"
    have fin : ∀ z : Int, (z = 1 ∨ z = -1) → Ok (stepD none none (some z) (.lst (ds.take i ++ ps ++ ds.drop (i + 1)))) fun r => ∃ es, r = .lst es ∧ (∀ d ∈ es, RowN (4 * B) d) ∧ es.length ≤ ds.length + 3 := fun z hz => by
      obtain ⟨es, e1, e2, e3⟩ := step_mem hz (ds := ds.take i ++ ps ++ ds.drop (i + 1)) (by omega)
      exact ⟨_, e1, es, rfl, fun d hd => h3 d (e2 d hd), by omega⟩
    rcases (show y6 = 0 ∨ y6 = 1 by omega) with rfl | rfl
    · refine o_idxL (k := 0) (d := .int 1) rfl ?_
      walk_at "vc"
      refine (fin 1 (.inl rfl)).mono ?_
      rintro _ ⟨es, rfl, h5, h6⟩
      walk_at "vc"
      exact ⟨es, rfl, h5, h6, hp6.le (by omega)⟩
    · refine o_idxL (k := 1) (d := .int (-1)) rfl ?_
      walk_at "vc"
      refine (fin (-1) (.inr rfl)).mono ?_
      rintro _ ⟨es, rfl, h5, h6⟩
      walk_at "vc"
      exact ⟨es, rfl, h5, h6, hp6.le (by omega)⟩
end Gk71

namespace Gk71
open PySem PySem.Spec PyProof.Rows L2 Dn
theorem near_ok {k : Nat} {p : D} {B : Int} {ds : List D} (hp : Purse k p) (hk : k ≤ 700000000) (hB0 : 5 ≤ B) (hB : B ≤ 10000000000000000000000000000000000000000) (hr : ∀ d ∈ ds, RowN B d) (hl : ds.length ≤ 40) :
    OkI (F__law_near p [.tup ds]) fun r p' => ∃ es : List D, r = .tup es ∧ (∀ d ∈ es, RowN (4 * B) d) ∧ es.length ≤ ds.length + 1 ∧ Purse (k + 10) p' := by
  unfold F__law_near
  refine w_runI (e0 := [some p, some (.tup ds), none, none, none, none, none, none, none]) rfl ?_
  unfold m__law_near
  have hr4 : ∀ d ∈ ds, RowN (4 * B) d := fun d hd => (hr d hd).mono (by omega)
  walk_at "st"
  refine o_eqT0 (fun d hd => (hr d hd).py) (by decide) ?_
  by_cases h0 : ds = []
  · subst h0
    rw [show ([] : List D).isEmpty = true from rfl]
    walk_at "vc"
    exact ⟨_, rfl, (fun d hd => by rw [List.mem_singleton.mp hd]; exact ⟨3, 0, 5, 0, rfl, by omega, by omega, by omega, by omega⟩), Nat.le_refl _, hp.le (by omega)⟩
  have hpos : 0 < ds.length := List.length_pos_iff.mpr h0
  rw [show ds.isEmpty = false from by cases ds with | nil => exact absurd rfl h0 | cons a b => rfl]
  walk_at "vc"
  refine (take_ok (n := ds.length) hp (by omega) hpos (by omega)).mono ?_
  rintro _ p1 ⟨i, rfl, hi, hp1⟩
  walk_at "vc"
  refine (take_ok (n := 4) hp1 (by omega) (by omega) (by omega)).mono ?_
  rintro _ p2 ⟨w, rfl, hw, hp2⟩
  walk_at "vc"
  obtain ⟨row, hrow, hmem⟩ := getSome hi
  refine o_idxT hrow ?_
  obtain ⟨a, s, b, q, rfl, ha, hs, hb, hq⟩ := hr row hmem
  have one : ∀ x : D, RowN (4 * B) x → ∃ es : List D, D.tup (ds.take i ++ [x] ++ ds.drop (i + 1)) = .tup es ∧ (∀ d ∈ es, RowN (4 * B) d) ∧ es.length ≤ ds.length + 1 ∧ Purse (k + 10) p2 := fun x hx => by
    have hl3 := len3 (xs := [x]) hi
    rw [List.length_singleton] at hl3
    exact ⟨_, rfl, mem3 hr4 (fun d hd => by rw [List.mem_singleton.mp hd]; exact hx), by omega, hp2.le (by omega)⟩
  have z1 : ∀ x : D, (ds.take i).length + [x].length ≤ sizeLine := fun x => by
    rw [List.length_take, List.length_singleton]
    exact le_size (by omega)
  have z2 : ∀ x : D, (ds.take i ++ [x]).length + (ds.drop (i + 1)).length ≤ sizeLine := fun x => by
    rw [List.length_append, List.length_take, List.length_singleton, List.length_drop]
    exact le_size (by omega)
  walk_at "vc"
  refine if_e (fun h1 => ?_) (fun h1 => ?_)
  · walk_at "vc"
    rw [cut_take]
    walk_at "vc"
    rw [show ((i : Int) + 1) = ((i + 1 : Nat) : Int) from rfl, cut_drop]
    refine o_addT (by rw [List.length_take, List.length_drop]; exact le_size (by omega)) ?_
    walk_at "vc"
    refine ⟨_, rfl, fun d hd => ?_, by rw [List.length_append, List.length_take, List.length_drop]; omega, hp2.le (by omega)⟩
    rcases List.mem_append.mp hd with hd | hd
    · exact hr4 d (List.mem_of_mem_take hd)
    · exact hr4 d (List.mem_of_mem_drop hd)
  walk_at "vc"
  refine if_e (fun h2 => ?_) (fun h2 => ?_)
  · walk_at "vc"
    refine if_d (fun h3 => ?_) (fun h3 => ?_)
    · walk_at "vc"
      rw [cut_take]
      refine o_addT (z1 _) ?_
      walk_at "vc"
      rw [show ((i : Int) + 1) = ((i + 1 : Nat) : Int) from rfl, cut_drop]
      refine o_addT (z2 _) ?_
      walk_at "vc"
      exact one _ ⟨_, _, _, _, rfl, by omega, by omega, by omega, by omega⟩
    · walk_at "vc"
      refine if_e (fun h4 => absurd (h2.symm.trans h4) (by decide)) (fun h4 => ?_)
      walk_at "vc"
      rw [cut_take]
      refine o_addT (z1 _) ?_
      walk_at "vc"
      rw [show ((i : Int) + 1) = ((i + 1 : Nat) : Int) from rfl, cut_drop]
      refine o_addT (z2 _) ?_
      walk_at "vc"
      exact one _ ⟨_, _, _, _, rfl, by omega, by omega, by omega, by omega⟩
  walk_at "vc"
  refine if_e (fun h4 => ?_) (fun h4 => ?_)
  · walk_at "vc"
    refine if_d (fun h3 => ?_) (fun h3 => ?_)
    · walk_at "vc"
      rw [cut_take]
      refine o_addT (z1 _) ?_
      walk_at "vc"
      rw [show ((i : Int) + 1) = ((i + 1 : Nat) : Int) from rfl, cut_drop]
      refine o_addT (z2 _) ?_
      walk_at "vc"
      exact one _ ⟨_, _, _, _, rfl, by omega, by omega, by omega, by omega⟩
    · walk_at "vc"
      rw [cut_take]
      refine o_addT (z1 _) ?_
      walk_at "vc"
      rw [show ((i : Int) + 1) = ((i + 1 : Nat) : Int) from rfl, cut_drop]
      refine o_addT (z2 _) ?_
      walk_at "vc"
      exact one _ ⟨_, _, _, _, rfl, by omega, by omega, by omega, by omega⟩
  · walk_at "vc"
    rw [cut_take]
    refine o_addT (z1 _) ?_
    walk_at "vc"
    rw [show ((i : Int) + 1) = ((i + 1 : Nat) : Int) from rfl, cut_drop]
    refine o_addT (z2 _) ?_
    walk_at "vc"
    exact one _ ⟨_, _, _, _, rfl, by omega, by omega, by omega, by omega⟩
/-! ### the claims -/
def Lay (d : D) : Prop := ∃ es : List D, d = .tup es ∧ (∀ e ∈ es, RowN 16000000000000000000000000000000000 e) ∧ es.length ≤ 24
theorem RowN.sm {d : D} (h : RowN 16000000000000000000000000000000000 d) : smallB 0 2 d = true ∧ wt d = 804 := by
  obtain ⟨a, s, b, p, rfl, h⟩ := h
  refine ⟨small_tup.mpr ⟨by show 4 ≤ 100; decide, all4 ?_ ?_ ?_ ?_⟩, rfl⟩ <;> exact small_int.mpr (by omega)
theorem rows_wt : ∀ {es : List D}, (∀ e ∈ es, RowN 16000000000000000000000000000000000 e) → wts es ≤ 805 * es.length
  | [], _ => Nat.le_refl _
  | e :: es, h => by
    have h1 := (h e (List.mem_cons_self ..)).sm.2
    have h2 := rows_wt fun x hx => h x (List.mem_cons_of_mem _ hx)
    rw [wts, List.length_cons]
    omega
theorem Lay.sm {d : D} (h : Lay d) : Sm 0 3 20000 d := by
  obtain ⟨es, rfl, h1, h2⟩ := h
  refine ⟨small_tup.mpr ⟨by omega, fun e he => (h1 e he).sm.1⟩, ?_⟩
  have := rows_wt h1
  rw [wt]
  omega
theorem fig_sm {i : Int} (h : i.natAbs ≤ 1000000000000000000000000000000000000000) : Sm 0 3 20000 (.int i) := ⟨small_int.mpr (by omega), by show 200 ≤ 20000; omega⟩
def Claim (c : D) : Prop := ∃ (ds : List D) (sh : D), c = .tup [.tup ds, sh] ∧ Parts wordsC 0 3 20000 ds ∧ Sm 0 3 20000 sh
theorem claim_alike {r l : D} (hr : Lay r) (hl : Lay l) : Claim (.tup [.tup [.str "alike", r, l], .non]) := ⟨_, _, rfl, ⟨_, _, rfl, by simp [wordsC], fun d hd => by
  rcases List.mem_cons.mp hd with rfl | hd
  · exact hr.sm
  · rw [List.mem_singleton.mp hd]
    exact hl.sm⟩, ⟨small_non, Nat.zero_le _⟩⟩
theorem claim_unlike {r l : D} {i : Int} (hr : Lay r) (hl : Lay l) (hi : i.natAbs ≤ 1000000000000000000000000000000000000000) : Claim (.tup [.tup [.str "unlike", r, l, .int i], .non]) := ⟨_, _, rfl, ⟨_, _, rfl, by simp [wordsC], all3 hr.sm hl.sm (fig_sm hi)⟩, ⟨small_non, Nat.zero_le _⟩⟩
end Gk71

namespace Gk71
open PySem PySem.Spec PyProof.Rows L2 Dn
theorem lay_of {B : Int} {es : List D} (h : ∀ e ∈ es, RowN B e) (hB : B ≤ 16000000000000000000000000000000000) (hl : es.length ≤ 24) : Lay (.tup es) := ⟨es, rfl, fun e he => (h e he).mono hB, hl⟩
theorem claims_ok {k : Nat} {p : D} {ds : List D} (hp : Purse k p) (hk : k ≤ 70000000) (hr : ∀ d ∈ ds, RowS d) (hl : ds.length ≤ 18) : OkI (F__law_claims p [.tup ds]) fun r p' => ∃ cs : List D, r = .lst cs ∧ (∀ c ∈ cs, Claim c) ∧ cs.length ≤ 200 ∧ Purse (k + 500) p' := by
  unfold F__law_claims
  refine w_runI (e0 := [some p, some (.tup ds), none, none, none, none, none, none, none]) rfl ?_
  unfold m__law_claims
  have hr0 : ∀ d ∈ ds, RowN 1000000000000000000000000000000000 d := fun d hd => (hr d hd).toN
  have lay0 : Lay (.tup ds) := lay_of hr0 (by omega) (by omega)
  walk_at "st"
  refine (told_ok hp (by omega) (by omega) (by omega) hr0 (by omega)).mono ?_
  rintro _ p1 ⟨es, rfl, he1, he2, hp1⟩
  walk_at "vc"
  refine (told_ok hp1 (by omega) (by omega) (by omega) he1 (by omega)).mono ?_
  rintro _ p2 ⟨fs, rfl, hf1, hf2, hp2⟩
  walk_at "vc"
  refine (near_ok hp2 (by omega) (by omega) (by omega) hr0 (by omega)).mono ?_
  rintro _ p3 ⟨gs, rfl, hg1, hg2, hp3⟩
  walk_at "vc"
  refine (near_ok hp3 (by omega) (by omega) (by omega) he1 (by omega)).mono ?_
  rintro _ p4 ⟨hs, rfl, hh1, hh2, hp4⟩
  walk_at "vc"
  refine (laying_ok hp4 (by omega)).mono ?_
  rintro _ p5 ⟨is, rfl, hi1, hi2, hp5⟩
  have le : Lay (.tup es) := lay_of he1 (by omega) (by omega)
  have lf : Lay (.tup fs) := lay_of hf1 (by omega) (by omega)
  have lg : Lay (.tup gs) := lay_of hg1 (by omega) (by omega)
  have lh : Lay (.tup hs) := lay_of hh1 (by omega) (by omega)
  have li : Lay (.tup is) := lay_of (fun d hd => (hi1 d hd).toN) (by omega) (by omega)
  have l0 : Lay (.tup []) := ⟨[], rfl, (fun _ z => by cases z), Nat.zero_le _⟩
  have hall : ∀ d ∈ [D.tup es, .tup fs, .tup gs, .tup hs, .tup is, .tup []], Lay d := by
    intro d hd
    simp only [List.mem_cons, List.not_mem_nil, or_false] at hd
    rcases hd with rfl | rfl | rfl | rfl | rfl | rfl <;> assumption
  walk_at "st"
  walk_at "nx"
  refine w_seq (w_forM (fun ls i e => ls.length = 6 ∧ (∀ d ∈ ls, Lay d) ∧ ∃ (p : D) (cs : List D) (x5 x6 x7 x8 : Option D), e = [some p, some (.tup ds), some (.tup es), some (.tup fs), some (.lst cs), x5, x6, x7, x8] ∧ Purse (k + 300 + 10 * i) p ∧ (∀ c ∈ cs, Claim c) ∧ cs.length ≤ 9 * i) ?_)
  walk_at "vc"
  refine ⟨⟨rfl, hall, p5, [], _, _, _, _, rfl, hp5.le (by omega), (fun _ z => by cases z), Nat.zero_le _⟩, ?_, ?_⟩
  · rintro i d e hd ⟨hll, hls, p, cs, x5, x6, x7, x8, rfl, hp, hcs, hcl⟩
    have hi : i < 6 := by have := (List.getElem?_eq_some_iff.mp hd).1; omega
    have ld := hls d (List.mem_of_getElem? hd)
    obtain ⟨js, rfl, hj1, hj2⟩ := id ld
    walk_at "vc"
    refine ⟨lt_size (by omega), ?_⟩
    walk_at "vc"
    refine ⟨lt_size (by rw [List.length_append, List.length_singleton]; omega), ?_⟩
    have hc2 : ∀ c ∈ cs ++ [D.tup [.tup [.str "alike", .tup ds, .tup js], .non]] ++ [D.tup [.tup [.str "alike", .tup js, .tup ds], .non]], Claim c := app_ok (app_ok hcs (claim_alike lay0 ld)) (claim_alike ld lay0)
    generalize hcc : cs ++ [D.tup [.tup [.str "alike", .tup ds, .tup js], .non]] ++ [D.tup [.tup [.str "alike", .tup js, .tup ds], .non]] = cc at *
    have hcl2 : cc.length = cs.length + 2 := by rw [← hcc]; simp
    walk_at "nx"
    refine w_seq (w_forM (fun gs j e => gs.length = 3 ∧ (∀ d ∈ gs, ∃ z : Int, d = .int z ∧ z.natAbs ≤ 1000000000000000000000000000000000000000) ∧ ∃ (p : D) (cs : List D) (x7 : Option D), e = [some p, some (.tup ds), some (.tup es), some (.tup fs), some (.lst cs), x5, some (.tup js), x7, x8] ∧ Purse (k + 300 + 10 * i + 5) p ∧ (∀ c ∈ cs, Claim c) ∧ cs.length ≤ 9 * i + 2 + j) ?_)
    walk_at "vc"
    refine (take_ok (n := 9) hp (by omega) (by omega) (by omega)).mono ?_
    rintro _ p6 ⟨y6, rfl, hy6, hp6⟩
    walk_at "vc"
    refine (take_ok (n := 60) hp6 (by omega) (by omega) (by omega)).mono ?_
    rintro _ p7 ⟨y7, rfl, hy7, hp7⟩
    walk_at "vc"
    refine (take_ok (n := 24) hp7 (by omega) (by omega) (by omega)).mono ?_
    rintro _ p8 ⟨y8, rfl, hy8, hp8⟩
    walk_at "vc"
    refine ⟨⟨rfl, ?_, p8, cc, _, rfl, hp8.le (by omega), hc2, by omega⟩, ?_, ?_⟩
    · intro d hd
      simp only [List.mem_cons, List.not_mem_nil, or_false] at hd
      rcases hd with rfl | rfl | rfl
      · exact ⟨_, rfl, by omega⟩
      · exact ⟨_, rfl, by omega⟩
      · refine ⟨_, rfl, ?_⟩
        have e10 : (10 : Int) ^ (30 : Int).toNat = 1000000000000000000000000000000 := by decide
        rw [e10]
        omega
    · rintro j d e hd ⟨hgl, hgs, p, cs, x7, rfl, hp, hcs, hcl⟩
      have hj : j < 3 := by have := (List.getElem?_eq_some_iff.mp hd).1; omega
      obtain ⟨z, rfl, hz⟩ := hgs d (List.mem_of_getElem? hd)
      walk_at "vc"
      refine ⟨lt_size (by omega), ?_⟩
      walk_at "vc"
      exact ⟨rfl, hgl, hgs, p, _, _, rfl, hp, app_ok hcs (claim_unlike lay0 ld hz), by rw [List.length_append, List.length_singleton]; omega⟩
    · rintro e ⟨hgl, hgs, p, cs, x7, rfl, hp, hcs, hcl⟩
      rw [hgl] at hcl
      walk_at "nx"
      have hjr : ∀ d ∈ ds ++ js, RowN 16000000000000000000000000000000000 d := fun d hd => (List.mem_append.mp hd).elim (fun z => (hr0 d z).mono (by omega)) (hj1 d)
      refine w_forM (fun rs j e => rs.length ≤ 4 ∧ (∀ d ∈ rs, RowN 16000000000000000000000000000000000 d) ∧ ∃ (cs : List D) (x8 : Option D), e = [some p, some (.tup ds), some (.tup es), some (.tup fs), some (.lst cs), x5, some (.tup js), x7, x8] ∧ (∀ c ∈ cs, Claim c) ∧ cs.length ≤ 9 * i + 5 + j) ?_
      walk_at "vc"
      refine o_addT (by exact le_size (by omega)) ?_
      walk_at "vc"
      rw [show (4 : Int) = ((4 : Nat) : Int) from rfl, cut_take]
      refine ⟨⟨by rw [List.length_take]; omega, fun d hd => hjr d (List.mem_of_mem_take hd), cs, _, rfl, hcs, by omega⟩, ?_, ?_⟩
      · rintro j d e hd ⟨hrl, hrs, cs, x8, rfl, hcs, hcl⟩
        have hj : j < 4 := by have := (List.getElem?_eq_some_iff.mp hd).1; omega
        obtain ⟨a, s, b, q, rfl, ha, _⟩ := hrs d (List.mem_of_getElem? hd)
        walk_at "vc"
        refine ⟨lt_size (by omega), ?_⟩
        walk_at "vc"
        exact ⟨rfl, hrl, hrs, _, _, rfl, app_ok hcs (claim_unlike ld lay0 (by omega)), by rw [List.length_append, List.length_singleton]; omega⟩
      · rintro e ⟨hrl, hrs, cs, x8, rfl, hcs, hcl⟩
        exact ⟨rfl, hll, hls, p, cs, _, _, _, _, rfl, hp.le (by omega), hcs, by omega⟩
  · rintro e ⟨hll, hls, p, cs, x5, x6, x7, x8, rfl, hp, hcs, hcl⟩
    rw [hll] at hcl
    walk_at "nx"
    refine w_frz ?_
    walk_at "vc"
    exact ⟨cs, rfl, hcs, by omega, hp.le (by omega)⟩
end Gk71

namespace Gk71
open PySem PySem.Spec PyProof.Rows L2 Dn
theorem right_ok {p : D} (hp : Purse 0 p) : OkI (F__law_right p []) fun r _ => r = .bl true := by
  unfold F__law_right
  refine w_runI (e0 := [some p, none, none, none, none, none]) rfl ?_
  unfold m__law_right
  have hw10 : ∀ q ∈ wordsC, q.2 ≤ 10 := by decide +kernel
  walk_at "st"
  refine (laying_ok hp (by omega)).mono ?_
  rintro _ p1 ⟨rs, rfl, hr1, hr2, hp1⟩
  walk_at "st"
  walk_at "nx"
  refine w_seq (w_forM (fun cs j e => cs.length ≤ 200 ∧ (∀ c ∈ cs, Claim c) ∧ ∃ (p : D) (x2 x3 x4 x5 : Option D), e = [some p, some (.tup rs), x2, x3, x4, x5] ∧ Purse (1000 + 200 * j) p) ?_)
  walk_at "vc"
  refine (claims_ok hp1 (by omega) hr1 hr2).mono ?_
  rintro _ p4 ⟨cs, rfl, hcs, hcl, hp4⟩
  walk_at "vc"
  refine ⟨⟨hcl, hcs, p4, _, _, _, _, rfl, hp4.le (by omega)⟩, ?_, ?_⟩
  · rintro j c e hc ⟨hcl, hcs, p, x2, x3, x4, x5, rfl, hp⟩
    have hj : j < 200 := by have := (List.getElem?_eq_some_iff.mp hc).1; omega
    obtain ⟨ds, sh, rfl, hds, hsh⟩ := hcs c (List.mem_of_getElem? hc)
    obtain ⟨t, h1, h2⟩ := due_taken (by omega) hds hsh
    walk_at "vc"
    refine o_eq h1 ?_
    walk_at "vc"
    refine o_eq h2 ?_
    walk_at "vc"
    refine (spoilt_ok hw10 hp (by omega) hds hsh).mono ?_
    rintro _ p5 ⟨es2, sh2, rfl, hes2, hsh2, hp5⟩
    obtain ⟨t2, h3, h4⟩ := due_taken (by omega) hes2 hsh2
    walk_at "vc"
    refine o_eq h3 ?_
    walk_at "vc"
    refine o_eq h4 ?_
    walk_at "vc"
    exact ⟨rfl, hcl, hcs, p5, _, _, _, _, rfl, hp5.le (by omega)⟩
  · rintro e ⟨hcl, hcs, p, x2, x3, x4, x5, rfl, hp⟩
    walk_at "nx"
    walk_at "vc"
    rfl
theorem law_true (ns : List Int) : F_law [.scr ns] = .ok (.bl true) := by
  refine o_out ?_
  unfold F_law
  refine w_runB (e0 := [some (.scr ns), none, none]) rfl ?_
  unfold m_law
  have e50 : (10 : Int) ^ (50 : Int).toNat = ((100000000000000000000000000000000000000000000000000 : Nat) : Int) := by decide
  have e49 : ((100000000000000000000000000000000000000000000000000 : Nat) : Int) - 1 = ((99999999999999999999999999999999999999999999999999 : Nat) : Int) := by decide
  have hd := taken_of distant_ok
  walk_at "vc"
  simp only [e50, e49]
  refine o_eq (show F__law_taken _ = .ok (.bl true) from hd) ?_
  walk_at "vc"
  refine w_lcMap (fun _ _ => .bl true) (Nat.le_of_ble_eq_true rfl) ?_
  walk_at "vc"
  refine o_lenS ?_
  walk_at "vc"
  refine o_min ?_
  walk_at "vc"
  refine o_max ?_
  walk_at "vc"
  refine nat_i (by omega) fun m hm => ?_
  refine ⟨by omega, rfl, by rw [rngL_len]; exact sz1 (by omega), fun d hd => ?_, ?_⟩
  · obtain ⟨j, hj⟩ := List.getElem?_of_mem hd
    obtain ⟨rfl, hj2⟩ := rngL_mem hj
    walk_at "vc"
    refine (cell_ok ns j (by omega)).mono ?_
    rintro _ ⟨i, rfl⟩
    walk_at "vc"
    refine (purse_ok i).mono ?_
    intro r hr
    have hr2 := hr
    obtain ⟨a, b, c, rfl, _⟩ := hr2
    walk_at "vc"
    refine (right_ok hr).mono ?_
    rintro _ p3 rfl
    walk_at "vc"
    exact ⟨rfl, rfl⟩
  · walk_at "vc"
    refine o_eq (a := D.bl true) ?_ ?_
    · obtain ⟨_, h1, h2⟩ := o_all (ds := rngL 0 m) (p := fun _ => true) (Q := fun r => r = .bl true) (by simp)
      rw [h2] at h1
      exact h1
    walk_at "vc"
    rfl
end Gk71

set_option maxHeartbeats 0
namespace Gk71
open PySem PySem.Spec PyProof.Rows L2 Dn
def d_divisor : He.DefD := ⟨("divisor", none), "divisor", "divisor", defArgs s_divisor, defBody s_divisor, defScope s_divisor, [], []⟩
def d_common : He.DefD := ⟨("common", none), "common", "common", defArgs s_common, defBody s_common, defScope s_common, [], []⟩
def d_is_count : He.DefD := ⟨("is_count", none), "is_count", "is_count", defArgs s_is_count, defBody s_is_count, defScope s_is_count, [.int 0, .non], []⟩
def d_is_row : He.DefD := ⟨("is_row", none), "is_row", "is_row", defArgs s_is_row, defBody s_is_row, defScope s_is_row, [], []⟩
def d_rows_touch : He.DefD := ⟨("rows_touch", none), "rows_touch", "rows_touch", defArgs s_rows_touch, defBody s_rows_touch, defScope s_rows_touch, [], []⟩
def d_is_laying : He.DefD := ⟨("is_laying", none), "is_laying", "is_laying", defArgs s_is_laying, defBody s_is_laying, defScope s_is_laying, [], []⟩
def d_room_at : He.DefD := ⟨("room_at", none), "room_at", "room_at", defArgs s_room_at, defBody s_room_at, defScope s_room_at, [], []⟩
def d_lead_alike : He.DefD := ⟨("lead_alike", none), "lead_alike", "lead_alike", defArgs s_lead_alike, defBody s_lead_alike, defScope s_lead_alike, [], []⟩
def d_are_alike : He.DefD := ⟨("are_alike", none), "are_alike", "are_alike", defArgs s_are_alike, defBody s_are_alike, defScope s_are_alike, [], []⟩
def d_are_unlike : He.DefD := ⟨("are_unlike", none), "are_unlike", "are_unlike", defArgs s_are_unlike, defBody s_are_unlike, defScope s_are_unlike, [], []⟩
def d_holds : He.DefD := ⟨("holds", none), "holds", "holds", defArgs s_holds, defBody s_holds, defScope s_holds, [], []⟩
def d__law_taken : He.DefD := ⟨("_law_taken", none), "_law_taken", "_law_taken", defArgs s__law_taken, defBody s__law_taken, defScope s__law_taken, [], []⟩
def d__law_take : He.DefD := ⟨("_law_take", none), "_law_take", "_law_take", defArgs s__law_take, defBody s__law_take, defScope s__law_take, [], []⟩
def d__law_classes : He.DefD := ⟨("_law_classes", none), "_law_classes", "_law_classes", defArgs s__law_classes, defBody s__law_classes, defScope s__law_classes, [], []⟩
def d__law_laying : He.DefD := ⟨("_law_laying", none), "_law_laying", "_law_laying", defArgs s__law_laying, defBody s__law_laying, defScope s__law_laying, [], []⟩
def d__law_told_otherwise : He.DefD := ⟨("_law_told_otherwise", none), "_law_told_otherwise", "_law_told_otherwise", defArgs s__law_told_otherwise, defBody s__law_told_otherwise, defScope s__law_told_otherwise, [], []⟩
def d__law_near : He.DefD := ⟨("_law_near", none), "_law_near", "_law_near", defArgs s__law_near, defBody s__law_near, defScope s__law_near, [], []⟩
def d__law_claims : He.DefD := ⟨("_law_claims", none), "_law_claims", "_law_claims", defArgs s__law_claims, defBody s__law_claims, defScope s__law_claims, [], []⟩
def d__law_odd : He.DefD := ⟨("_law_odd", none), "_law_odd", "_law_odd", defArgs s__law_odd, defBody s__law_odd, defScope s__law_odd, [], []⟩
def d__law_bent : He.DefD := ⟨("_law_bent", none), "_law_bent", "_law_bent", defArgs s__law_bent, defBody s__law_bent, defScope s__law_bent, [], []⟩
def d__law_spoilt : He.DefD := ⟨("_law_spoilt", none), "_law_spoilt", "_law_spoilt", defArgs s__law_spoilt, defBody s__law_spoilt, defScope s__law_spoilt, [], []⟩
def d__law_room : He.DefD := ⟨("_law_room", none), "_law_room", "_law_room", defArgs s__law_room, defBody s__law_room, defScope s__law_room, [], []⟩
def d__law_shared : He.DefD := ⟨("_law_shared", none), "_law_shared", "_law_shared", defArgs s__law_shared, defBody s__law_shared, defScope s__law_shared, [], []⟩
def d__law_spots : He.DefD := ⟨("_law_spots", none), "_law_spots", "_law_spots", defArgs s__law_spots, defBody s__law_spots, defScope s__law_spots, [], []⟩
def d__law_are_alike : He.DefD := ⟨("_law_are_alike", none), "_law_are_alike", "_law_are_alike", defArgs s__law_are_alike, defBody s__law_are_alike, defScope s__law_are_alike, [], []⟩
def d__law_whole : He.DefD := ⟨("_law_whole", none), "_law_whole", "_law_whole", defArgs s__law_whole, defBody s__law_whole, defScope s__law_whole, [], []⟩
def d__law_is_row : He.DefD := ⟨("_law_is_row", none), "_law_is_row", "_law_is_row", defArgs s__law_is_row, defBody s__law_is_row, defScope s__law_is_row, [], []⟩
def d__law_meets : He.DefD := ⟨("_law_meets", none), "_law_meets", "_law_meets", defArgs s__law_meets, defBody s__law_meets, defScope s__law_meets, [], []⟩
def d__law_fault : He.DefD := ⟨("_law_fault", none), "_law_fault", "_law_fault", defArgs s__law_fault, defBody s__law_fault, defScope s__law_fault, [], []⟩
def d__law_due : He.DefD := ⟨("_law_due", none), "_law_due", "_law_due", defArgs s__law_due, defBody s__law_due, defScope s__law_due, [], []⟩
def d__law_right : He.DefD := ⟨("_law_right", none), "_law_right", "_law_right", defArgs s__law_right, defBody s__law_right, defScope s__law_right, [], []⟩
def d__law_purse : He.DefD := ⟨("_law_purse", none), "_law_purse", "_law_purse", defArgs s__law_purse, defBody s__law_purse, defScope s__law_purse, [], []⟩
def d__law_cell : He.DefD := ⟨("_law_cell", none), "_law_cell", "_law_cell", defArgs s__law_cell, defBody s__law_cell, defScope s__law_cell, [], []⟩
def d_law : He.DefD := ⟨("law", none), "law", "law", defArgs s_law, defBody s_law, defScope s_law, [], []⟩
def fnL : List He.DefD := ([d_divisor, d_common, d_is_count, d_is_row, d_rows_touch, d_is_laying, d_room_at, d_lead_alike, d_are_alike, d_are_unlike, d_holds, d__law_taken, d__law_take, d__law_classes, d__law_laying, d__law_told_otherwise, d__law_near, d__law_claims, d__law_odd, d__law_bent, d__law_spoilt, d__law_room, d__law_shared, d__law_spots, d__law_are_alike, d__law_whole, d__law_is_row, d__law_meets, d__law_fault, d__law_due] : List He.DefD) ++ ([d__law_right, d__law_purse, d__law_cell, d_law] : List He.DefD)
def faL : List He.Fa := ([.free "abs", .free "all", .free "any", .free "bool", .free "enumerate", .free "int", .free "isinstance", .free "len", .free "list", .free "max", .free "min", .free "range", .free "str", .free "tuple", .int "MOST_ROWS" 60, .int "MOST_STEP" 240, .glo "_law_are_alike", .glo "_law_bent", .glo "_law_cell", .glo "_law_claims", .glo "_law_classes", .glo "_law_due", .glo "_law_fault", .glo "_law_is_row", .glo "_law_laying", .glo "_law_meets", .glo "_law_near", .glo "_law_odd", .glo "_law_purse", .glo "_law_right"] : List He.Fa) ++ ([.glo "_law_room", .glo "_law_shared", .glo "_law_spoilt", .glo "_law_spots", .glo "_law_take", .glo "_law_taken", .glo "_law_told_otherwise", .glo "_law_whole", .glo "common", .glo "divisor", .glo "holds", .glo "is_count", .glo "is_laying", .glo "is_row", .glo "law", .glo "lead_alike", .glo "room_at", .glo "rows_touch", .glo "CLAIMS"] : List He.Fa)
def tabL : List He.Tab := [(fun K => He.ga K "CLAIMS", ["lies", "free", "one to one", "two", "frees", "alike", "unlike", "far", "home", "never home", "least share", "ends", "crowded", "never crowded"])]
def exB (K : PySem.W.Frag) : Bool := (tbl_CLAIMS.all (ktOne K (fnA K) (He.ga K "CLAIMS")))
abbrev Rw : PySem.W.OpenRow := PySem.W.OpenLaw.row PySem.Challenge.rw_endlessinn_k71_likeness_judged
abbrev hk : PySem.W.Hook := He.hookX 5 faL fnL tabL [] exB
def ob (s : PySem.W.SharedT) : He.AlX := He.obsX 5 faL fnL tabL [] exB (HandSHeadRun.getT s)
theorem ob_eq (s : PySem.W.SharedT) : ob s = hk.obs s.abs := He.obsX_eq (HandSHeadRun.getT_eq s)
def looseL : List Str := (["MOST_ROWS", "MOST_STEP", "MOST_PARTS", "is_count", "divisor", "common", "rows_touch", "is_row", "is_laying", "room_at", "lead_alike", "is_rule", "lead_on", "is_single", "ways_told", "is_ring", "MOST_CLAUSES", "MOST_START", "MOST_PACE", "is_course", "leads_of", "goal_of", "still_sits", "is_crowd", "over_turns", "bends_of", "lines_of", "crowds_by", "never_crowds", "claim_lies"] : List Str) ++ (["row_misses", "is_free", "one_to_one", "two_met", "frees", "are_alike", "are_unlike", "ring_ways", "is_far", "is_home", "never_home", "least_share", "claim_ends", "is_moment", "claim_crowded", "never_crowded", "CLAIMS", "holds", "_law_cell", "_law_purse", "_law_take", "_law_shared", "_law_classes", "_law_laying", "_law_room", "_law_whole", "_law_is_row", "_law_meets", "_law_fault", "_law_spots"] : List Str) ++ (["_law_are_alike", "_law_odd", "_law_bent", "_law_taken", "_law_spoilt", "_law_due", "_law_told_otherwise", "_law_near", "_law_claims", "_law_right"] : List Str)
theorem runF (w : World) : HandSHeadRun.RunEq Rw (PySem.W.view Rw.prog [74]) hk ob 20000 looseL (w.withFollow "special-get-raises" false) := by
  intro os
  kernel_rfl
theorem runT (w : World) : HandSHeadRun.RunEq Rw (PySem.W.view Rw.prog [74]) hk ob 20000 looseL (w.withFollow "special-get-raises" true) := by
  intro os
  kernel_rfl
theorem run (w : World) : HandSHeadRun.RunEq Rw (PySem.W.view Rw.prog [74]) hk ob 20000 looseL w := PySem.W.byRow2 "special-get-raises" (P := fun w => HandSHeadRun.RunEq Rw (PySem.W.view Rw.prog [74]) hk ob 20000 looseL w) runF runT w
theorem mg_of {w : World} {K : PySem.W.Frag} {h : Heap} {mg : Str → Option Value} (X : K.In h) (G : h.Ns mainGlobals mg) (c : He.SaysX faL fnL tabL [] exB w h K) : MG w K mg where
  fr_abs := He.free_ok X G (c.t.d.fact 0 (f := .free "abs") rfl)
  fr_all := He.free_ok X G (c.t.d.fact 1 (f := .free "all") rfl)
  fr_any := He.free_ok X G (c.t.d.fact 2 (f := .free "any") rfl)
  fr_bool := He.free_ok X G (c.t.d.fact 3 (f := .free "bool") rfl)
  fr_enumerate := He.free_ok X G (c.t.d.fact 4 (f := .free "enumerate") rfl)
  fr_int := He.free_ok X G (c.t.d.fact 5 (f := .free "int") rfl)
  fr_isinstance := He.free_ok X G (c.t.d.fact 6 (f := .free "isinstance") rfl)
  fr_len := He.free_ok X G (c.t.d.fact 7 (f := .free "len") rfl)
  fr_list := He.free_ok X G (c.t.d.fact 8 (f := .free "list") rfl)
  fr_max := He.free_ok X G (c.t.d.fact 9 (f := .free "max") rfl)
  fr_min := He.free_ok X G (c.t.d.fact 10 (f := .free "min") rfl)
  fr_range := He.free_ok X G (c.t.d.fact 11 (f := .free "range") rfl)
  fr_str := He.free_ok X G (c.t.d.fact 12 (f := .free "str") rfl)
  fr_tuple := He.free_ok X G (c.t.d.fact 13 (f := .free "tuple") rfl)
  gi_MOST_ROWS := He.int_ok X G (c.t.d.fact 14 (f := .int "MOST_ROWS" 60) rfl)
  gi_MOST_STEP := He.int_ok X G (c.t.d.fact 15 (f := .int "MOST_STEP" 240) rfl)
  gf__law_are_alike := He.glo_ok X G (c.t.d.fact 16 (f := .glo "_law_are_alike") rfl)
  gf__law_bent := He.glo_ok X G (c.t.d.fact 17 (f := .glo "_law_bent") rfl)
  gf__law_cell := He.glo_ok X G (c.t.d.fact 18 (f := .glo "_law_cell") rfl)
  gf__law_claims := He.glo_ok X G (c.t.d.fact 19 (f := .glo "_law_claims") rfl)
  gf__law_classes := He.glo_ok X G (c.t.d.fact 20 (f := .glo "_law_classes") rfl)
  gf__law_due := He.glo_ok X G (c.t.d.fact 21 (f := .glo "_law_due") rfl)
  gf__law_fault := He.glo_ok X G (c.t.d.fact 22 (f := .glo "_law_fault") rfl)
  gf__law_is_row := He.glo_ok X G (c.t.d.fact 23 (f := .glo "_law_is_row") rfl)
  gf__law_laying := He.glo_ok X G (c.t.d.fact 24 (f := .glo "_law_laying") rfl)
  gf__law_meets := He.glo_ok X G (c.t.d.fact 25 (f := .glo "_law_meets") rfl)
  gf__law_near := He.glo_ok X G (c.t.d.fact 26 (f := .glo "_law_near") rfl)
  gf__law_odd := He.glo_ok X G (c.t.d.fact 27 (f := .glo "_law_odd") rfl)
  gf__law_purse := He.glo_ok X G (c.t.d.fact 28 (f := .glo "_law_purse") rfl)
  gf__law_right := He.glo_ok X G (c.t.d.fact 29 (f := .glo "_law_right") rfl)
  gf__law_room := He.glo_ok X G (c.t.d.fact 30 (f := .glo "_law_room") rfl)
  gf__law_shared := He.glo_ok X G (c.t.d.fact 31 (f := .glo "_law_shared") rfl)
  gf__law_spoilt := He.glo_ok X G (c.t.d.fact 32 (f := .glo "_law_spoilt") rfl)
  gf__law_spots := He.glo_ok X G (c.t.d.fact 33 (f := .glo "_law_spots") rfl)
  gf__law_take := He.glo_ok X G (c.t.d.fact 34 (f := .glo "_law_take") rfl)
  gf__law_taken := He.glo_ok X G (c.t.d.fact 35 (f := .glo "_law_taken") rfl)
  gf__law_told_otherwise := He.glo_ok X G (c.t.d.fact 36 (f := .glo "_law_told_otherwise") rfl)
  gf__law_whole := He.glo_ok X G (c.t.d.fact 37 (f := .glo "_law_whole") rfl)
  gf_common := He.glo_ok X G (c.t.d.fact 38 (f := .glo "common") rfl)
  gf_divisor := He.glo_ok X G (c.t.d.fact 39 (f := .glo "divisor") rfl)
  gf_holds := He.glo_ok X G (c.t.d.fact 40 (f := .glo "holds") rfl)
  gf_is_count := He.glo_ok X G (c.t.d.fact 41 (f := .glo "is_count") rfl)
  gf_is_laying := He.glo_ok X G (c.t.d.fact 42 (f := .glo "is_laying") rfl)
  gf_is_row := He.glo_ok X G (c.t.d.fact 43 (f := .glo "is_row") rfl)
  gf_law := He.glo_ok X G (c.t.d.fact 44 (f := .glo "law") rfl)
  gf_lead_alike := He.glo_ok X G (c.t.d.fact 45 (f := .glo "lead_alike") rfl)
  gf_room_at := He.glo_ok X G (c.t.d.fact 46 (f := .glo "room_at") rfl)
  gf_rows_touch := He.glo_ok X G (c.t.d.fact 47 (f := .glo "rows_touch") rfl)
  gt_CLAIMS := He.glo_ok X G (c.t.d.fact 48 (f := .glo "CLAIMS") rfl)
  kt_CLAIMS := kt_of (c.t.tab 0 (t := (fun K => He.ga K "CLAIMS", ["lies", "free", "one to one", "two", "frees", "alike", "unlike", "far", "home", "never home", "least share", "ends", "crowded", "never crowded"])) rfl) c.more
  fd_divisor := c.t.d.def_ 0 (d := d_divisor) rfl
  fd_common := c.t.d.def_ 1 (d := d_common) rfl
  fd_is_count := c.t.d.def_ 2 (d := d_is_count) rfl
  fd_is_row := c.t.d.def_ 3 (d := d_is_row) rfl
  fd_rows_touch := c.t.d.def_ 4 (d := d_rows_touch) rfl
  fd_is_laying := c.t.d.def_ 5 (d := d_is_laying) rfl
  fd_room_at := c.t.d.def_ 6 (d := d_room_at) rfl
  fd_lead_alike := c.t.d.def_ 7 (d := d_lead_alike) rfl
  fd_are_alike := c.t.d.def_ 8 (d := d_are_alike) rfl
  fd_are_unlike := c.t.d.def_ 9 (d := d_are_unlike) rfl
  fd_holds := c.t.d.def_ 10 (d := d_holds) rfl
  fd__law_taken := c.t.d.def_ 11 (d := d__law_taken) rfl
  fd__law_take := c.t.d.def_ 12 (d := d__law_take) rfl
  fd__law_classes := c.t.d.def_ 13 (d := d__law_classes) rfl
  fd__law_laying := c.t.d.def_ 14 (d := d__law_laying) rfl
  fd__law_told_otherwise := c.t.d.def_ 15 (d := d__law_told_otherwise) rfl
  fd__law_near := c.t.d.def_ 16 (d := d__law_near) rfl
  fd__law_claims := c.t.d.def_ 17 (d := d__law_claims) rfl
  fd__law_odd := c.t.d.def_ 18 (d := d__law_odd) rfl
  fd__law_bent := c.t.d.def_ 19 (d := d__law_bent) rfl
  fd__law_spoilt := c.t.d.def_ 20 (d := d__law_spoilt) rfl
  fd__law_room := c.t.d.def_ 21 (d := d__law_room) rfl
  fd__law_shared := c.t.d.def_ 22 (d := d__law_shared) rfl
  fd__law_spots := c.t.d.def_ 23 (d := d__law_spots) rfl
  fd__law_are_alike := c.t.d.def_ 24 (d := d__law_are_alike) rfl
  fd__law_whole := c.t.d.def_ 25 (d := d__law_whole) rfl
  fd__law_is_row := c.t.d.def_ 26 (d := d__law_is_row) rfl
  fd__law_meets := c.t.d.def_ 27 (d := d__law_meets) rfl
  fd__law_fault := c.t.d.def_ 28 (d := d__law_fault) rfl
  fd__law_due := c.t.d.def_ 29 (d := d__law_due) rfl
  fd__law_right := c.t.d.def_ 30 (d := d__law_right) rfl
  fd__law_purse := c.t.d.def_ 31 (d := d__law_purse) rfl
  fd__law_cell := c.t.d.def_ 32 (d := d__law_cell) rfl
  fd_law := c.t.d.def_ 33 (d := d_law) rfl
end Gk71

open PySem PySem.W PySem.Calls PyProof.Rows
theorem PySem.Challenge.cw_endlessinn_k71_likeness_judged_holds : PySem.Challenge.rw_endlessinn_k71_likeness_judged.Holds := by
  w_on; o_law
  refine HandSHeadRun.head_any (r := OpenLaw.row PySem.Challenge.rw_endlessinn_k71_likeness_judged) (q := view (OpenLaw.row PySem.Challenge.rw_endlessinn_k71_likeness_judged).prog [74]) (H := Gk71.hk) (ob := Gk71.ob) (M := 20000) (loose := Gk71.looseL) (d := HandSHeadRun.topDef (OpenLaw.row PySem.Challenge.rw_endlessinn_k71_likeness_judged).prog 74) (kwd := []) Gk71.ob_eq
    (by kernel_rfl) (fun s => by kernel_rfl) Gk71.run (by kernel_rfl) (by kernel_rfl) (by kernel_rfl) (by rfl) (by first | assumption | decide +kernel) (by decide +kernel) ⟨rfl, rfl, rfl, rfl, rfl, by decide +kernel⟩ ?hw ?hc
  case hw => w_witness2
  case hc =>
    refine Dn.walkG_ofE (l := PySem.Challenge.rw_endlessinn_k71_likeness_judged) (n := 63) (lv := 18) (x := "_law_script") (CX := L2.CX0) rfl (by decide) (by kernel_rfl) ⟨rfl, by decide, by decide⟩ ?F (fun _ _ _ _ z => z)
    intro w mg fa h Y G hmg0
    obtain ⟨K, KX, c⟩ := Y
    have hmg : mg ("law" : PySem.Str) = some (.ref fa) := by
      have e : (HandSHeadRun.topDef (OpenLaw.row PySem.Challenge.rw_endlessinn_k71_likeness_judged).prog 74).name = ("law" : PySem.Str) := by kernel_rfl
      rw [← e]
      exact hmg0
    have E : Gk71.MG w K mg := Gk71.mg_of KX G c
    have e2 := hmg.symm.trans E.gf_law
    cases e2
    obtain ⟨fd, F⟩ := E.fd_law
    have b := L2.FunD.bindsA (ps := ["_law_script"]) F fun _ _ _ _ _ _ us hl => match us, hl with | [_], _ => rfl
    exact ⟨K, fd, _, KX, fun s v => b s [v] rfl, fun H a ns _ hO hS => Dn.law_sp hO hS (Gk71.law_true ns), fun base _ _ => Gk71.fo_law E F⟩
