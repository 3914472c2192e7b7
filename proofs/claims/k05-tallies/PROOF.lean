import PyProof.Rows.All
import Wide.All
import OpenK.AllK
import Wide.FinOn
import HandS.ForMost
import HandS.ForExc
import HandS.Defaults
import HandS.Wide
import HandS.Style
import HandS.TupAny
import HandS.Deep
import HandS.Text
import HandS.More
import KE.KIntText
import HandS.IsInst
import HandS.RaiseMore
import HandS.WordsDict
import HandS.FStr
import HandS.Flow
import KE.KExcInit
import KE.KExcSuper
import HandS.MakeKw
import HandS.Iter
import HandS.TryOnly
import HandS.ExcInit
import HandS.ExcIs
import HandS.Conv
import HandS.Star
import HandS.TryMany
import KE.KOpsOwn
import HandS.Nested
import HandS.Head0
import HandS.Head1
import HandS.Head2
import HandS.HeadEnd
import HandS.HeadHook2
import HandS.HeadHook3
import HandS.ExcField
import HandS.Words
import HandS.Codes
import PySem.Challenge.RW_usescale_k05_tallies
set_option Elab.async false
set_option linter.all false
set_option maxRecDepth 100000
set_option maxHeartbeats 0
namespace Uw
open PySem PySem.Spec PyProof.Rows L2

/-! ### values: a tuple is a value -/
inductive W where
  | non | bl (b : Bool) | int (i : Int) | str (x : Str) | tup (ws : List W) | ref (a : Addr) | ty (n : String) | fn (k : Str) | cls (c : Str) | scr (ns : List Int)
  /-- a dict of the module that nobody writes: its name, its rows -/
  | kdc (x : Str) (tb : List (Str × W))

/-- the ground: the written part, where defs and classes stand -/
structure Gd where
  K : PySem.W.Frag
  fa : Str → Addr
  ca : Str → Addr
  ps : Params

/-- a list that nobody writes: the script -/
def SqF (K : PySem.W.Frag) (H : Hp) (a : Addr) (xs : List V) : Prop := (∃ o, H a = some (.frz o (.lst xs))) ∨
  ∃ (o : Obj) (its : Array Value) (n : Nat), K.lookup a = some o ∧ o.cls = .type "list" ∧ o.dict = none ∧ o.data = .seq its n ∧ its.size ≤ sizeLine ∧ Vals xs its.toList
theorem SqF.sq {K : PySem.W.Frag} {H : Hp} {a : Addr} {xs : List V} (h : SqF K H a xs) : SqL K H a xs := h.elim (fun z => .inl (.inr z)) .inr
/-- a dict of the module -/
def KdP (Ω : Gd) (a : Addr) : Prop := ∃ es n, Ω.K.lookup a = some ⟨.type "dict", none, .dict es n, #[]⟩ ∧ PySem.W.KeysLit Ω.ps es.toList ∧ (a == sysModules) = false
mutual
def RelW (Ω : Gd) (H : Hp) : W → V → Prop
  | .non, v => v = .non
  | .bl b, v => v = .bl b
  | .int i, v => v = .int i
  | .str x, v => v = .str x
  | .ref a, v => v = .ref a
  | .ty n, v => v = .ty n
  | .fn k, v => v = .ref (Ω.fa k)
  | .cls c, v => v = .ref (Ω.ca c)
  | .scr ns, v => ∃ a, v = .ref a ∧ SqF Ω.K H a (ns.map V.int)
  | .tup ws, v => ∃ a xs, v = .ref a ∧ SqT Ω.K H a xs ∧ RelWs Ω H ws xs
  | .kdc x tb, v => v = .ref (Ω.ca x) ∧ KdP Ω (Ω.ca x) ∧ (∀ k, tb.lookup k = none → PySem.W.nsIn Ω.K (Ω.ca x) k = some none) ∧ RelWk Ω H (Ω.ca x) tb
def RelWk (Ω : Gd) (H : Hp) (a : Addr) : List (Str × W) → Prop
  | [] => True
  | (k, w) :: r => (∃ u v, PySem.W.nsIn Ω.K a k = some (some u) ∧ RelV v u ∧ RelW Ω H w v) ∧ RelWk Ω H a r
def RelWs (Ω : Gd) (H : Hp) : List W → List V → Prop
  | [], vs => vs = []
  | w :: ws, vs => ∃ v r, vs = v :: r ∧ RelW Ω H w v ∧ RelWs Ω H ws r
end

/-- tuples stay, the script stays -/
structure TLe (Ω : Gd) (H H' : Hp) : Prop where
  t : ∀ b xs, SqT Ω.K H b xs → SqT Ω.K H' b xs
  f : ∀ b o u, H b = some (.frz o u) → H' b = some (.frz o u)
theorem TLe.refl {Ω : Gd} {H : Hp} : TLe Ω H H := ⟨fun _ _ h => h, fun _ _ _ h => h⟩
theorem TLe.trans {Ω : Gd} {H H1 H2 : Hp} (a : TLe Ω H H1) (b : TLe Ω H1 H2) : TLe Ω H H2 := ⟨fun _ _ h => b.t _ _ (a.t _ _ h), fun _ _ _ h => b.f _ _ _ (a.f _ _ _ h)⟩
theorem SqF.mono {Ω : Gd} {H H' : Hp} (t : TLe Ω H H') {a : Addr} {xs : List V} (h : SqF Ω.K H a xs) : SqF Ω.K H' a xs := h.elim (fun ⟨o, e⟩ => .inl ⟨o, t.f _ _ _ e⟩) .inr

mutual
theorem RelW.mono {Ω : Gd} {H H' : Hp} (t : TLe Ω H H') : ∀ {w : W} {v : V}, RelW Ω H w v → RelW Ω H' w v
  | .non, _, h => by simpa only [RelW] using h
  | .bl _, _, h => by simpa only [RelW] using h
  | .int _, _, h => by simpa only [RelW] using h
  | .str _, _, h => by simpa only [RelW] using h
  | .ref _, _, h => by simpa only [RelW] using h
  | .ty _, _, h => by simpa only [RelW] using h
  | .fn _, _, h => by simpa only [RelW] using h
  | .cls _, _, h => by simpa only [RelW] using h
  | .scr ns, v, h => by
    rw [RelW] at h ⊢
    obtain ⟨a, e, s⟩ := h
    exact ⟨a, e, s.mono t⟩
  | .tup ws, v, h => by
    rw [RelW] at h ⊢
    obtain ⟨a, xs, e, s, r⟩ := h
    exact ⟨a, xs, e, t.t _ _ s, RelWs.mono t r⟩
  | .kdc x tb, v, h => by
    rw [RelW] at h ⊢
    exact ⟨h.1, h.2.1, h.2.2.1, RelWk.mono t h.2.2.2⟩
theorem RelWk.mono {Ω : Gd} {H H' : Hp} (t : TLe Ω H H') {a : Addr} : ∀ {tb : List (Str × W)}, RelWk Ω H a tb → RelWk Ω H' a tb
  | [], _ => by rw [RelWk]; trivial
  | (k, w) :: r, h => by
    rw [RelWk] at h ⊢
    obtain ⟨⟨u, v, h1, h2, h3⟩, h4⟩ := h
    exact ⟨⟨u, v, h1, h2, RelW.mono t h3⟩, RelWk.mono t h4⟩
theorem RelWs.mono {Ω : Gd} {H H' : Hp} (t : TLe Ω H H') : ∀ {ws : List W} {vs : List V}, RelWs Ω H ws vs → RelWs Ω H' ws vs
  | [], _, h => by simpa only [RelWs] using h
  | w :: ws, vs, h => by
    rw [RelWs] at h ⊢
    obtain ⟨v, r, e, a, b⟩ := h
    exact ⟨v, r, e, RelW.mono t a, RelWs.mono t b⟩
end
section
variable {Ω : Gd} {H : Hp}
theorem RelWs.nil : RelWs Ω H [] [] := by rw [RelWs]
theorem RelWs.cons {w : W} {v : V} {ws : List W} {vs : List V} (a : RelW Ω H w v) (b : RelWs Ω H ws vs) : RelWs Ω H (w :: ws) (v :: vs) := by
  rw [RelWs]; exact ⟨v, vs, rfl, a, b⟩
theorem RelWs.inv_nil {vs : List V} (h : RelWs Ω H [] vs) : vs = [] := by rwa [RelWs] at h
theorem RelWs.inv_cons {w : W} {ws : List W} {vs : List V} (h : RelWs Ω H (w :: ws) vs) : ∃ v r, vs = v :: r ∧ RelW Ω H w v ∧ RelWs Ω H ws r := by rwa [RelWs] at h
theorem RelWs.length : ∀ {ws : List W} {vs : List V}, RelWs Ω H ws vs → ws.length = vs.length
  | [], _, h => by rw [h.inv_nil]; rfl
  | w :: ws, vs, h => by
    obtain ⟨v, r, rfl, _, b⟩ := h.inv_cons
    rw [List.length_cons, List.length_cons, RelWs.length b]
theorem RelWs.get : ∀ {ws : List W} {vs : List V} {i : Nat} {w : W}, RelWs Ω H ws vs → ws[i]? = some w → ∃ v, vs[i]? = some v ∧ RelW Ω H w v
  | [], _, i, w, h, e => by simp at e
  | w' :: ws, vs, 0, w, h, e => by
    obtain ⟨v, r, rfl, a, b⟩ := h.inv_cons
    simp at e; subst e
    exact ⟨v, rfl, a⟩
  | w' :: ws, vs, i + 1, w, h, e => by
    obtain ⟨v, r, rfl, a, b⟩ := h.inv_cons
    obtain ⟨v', e', q⟩ := RelWs.get (i := i) b (by simpa using e)
    exact ⟨v', by simpa using e', q⟩
theorem RelWs.getV : ∀ {ws : List W} {vs : List V} {i : Nat} {v : V}, RelWs Ω H ws vs → vs[i]? = some v → ∃ w, ws[i]? = some w ∧ RelW Ω H w v
  | [], _, i, v, h, e => by rw [h.inv_nil] at e; simp at e
  | w' :: ws, vs, 0, w, h, e => by
    obtain ⟨v, r, rfl, a, b⟩ := h.inv_cons
    simp at e; subst e
    exact ⟨w', rfl, a⟩
  | w' :: ws, vs, i + 1, w, h, e => by
    obtain ⟨v, r, rfl, a, b⟩ := h.inv_cons
    obtain ⟨v', e', q⟩ := RelWs.getV (i := i) b (by simpa using e)
    exact ⟨v', by simpa using e', q⟩
theorem RelWs.append : ∀ {ws us : List W} {vs zs : List V}, RelWs Ω H ws vs → RelWs Ω H us zs → RelWs Ω H (ws ++ us) (vs ++ zs)
  | [], us, vs, zs, h, q => by rw [h.inv_nil]; exact q
  | w :: ws, us, vs, zs, h, q => by
    obtain ⟨v, r, rfl, a, b⟩ := h.inv_cons
    exact .cons a (RelWs.append b q)
theorem RelWs.set {w : W} {v : V} (a : RelW Ω H w v) : ∀ {ws : List W} {vs : List V} (i : Nat), RelWs Ω H ws vs → RelWs Ω H (ws.set i w) (vs.set i v)
  | [], _, i, h => by rw [h.inv_nil]; exact .nil
  | w' :: ws, vs, 0, h => by
    obtain ⟨v', r, rfl, _, b⟩ := h.inv_cons
    exact .cons a b
  | w' :: ws, vs, i + 1, h => by
    obtain ⟨v', r, rfl, c, b⟩ := h.inv_cons
    exact .cons c (RelWs.set a i b)
theorem RelWs.take : ∀ {ws : List W} {vs : List V} (n : Nat), RelWs Ω H ws vs → RelWs Ω H (ws.take n) (vs.take n)
  | _, _, 0, _ => by simp only [List.take_zero]; exact .nil
  | [], vs, n + 1, h => by rw [h.inv_nil]; exact .nil
  | w :: ws, vs, n + 1, h => by
    obtain ⟨v, r, rfl, a, b⟩ := h.inv_cons
    exact .cons a (RelWs.take n b)
theorem RelWs.drop : ∀ {ws : List W} {vs : List V} (n : Nat), RelWs Ω H ws vs → RelWs Ω H (ws.drop n) (vs.drop n)
  | _, _, 0, h => h
  | [], vs, n + 1, h => by rw [h.inv_nil]; exact .nil
  | w :: ws, vs, n + 1, h => by
    obtain ⟨v, r, rfl, a, b⟩ := h.inv_cons
    exact RelWs.drop n b
theorem RelWs.eraseIdx : ∀ {ws : List W} {vs : List V} (n : Nat), RelWs Ω H ws vs → RelWs Ω H (ws.eraseIdx n) (vs.eraseIdx n)
  | [], vs, n, h => by rw [h.inv_nil]; exact .nil
  | w :: ws, vs, 0, h => by
    obtain ⟨v, r, rfl, a, b⟩ := h.inv_cons
    exact b
  | w :: ws, vs, n + 1, h => by
    obtain ⟨v, r, rfl, a, b⟩ := h.inv_cons
    exact .cons a (RelWs.eraseIdx n b)
theorem RelW.non : RelW Ω H .non .non := by rw [RelW]
theorem RelW.bl {b : Bool} : RelW Ω H (.bl b) (.bl b) := by rw [RelW]
theorem RelW.int {i : Int} : RelW Ω H (.int i) (.int i) := by rw [RelW]
theorem RelW.str {x : Str} : RelW Ω H (.str x) (.str x) := by rw [RelW]
theorem RelW.ref {a : Addr} : RelW Ω H (.ref a) (.ref a) := by rw [RelW]
theorem RelW.ty {n : String} : RelW Ω H (.ty n) (.ty n) := by rw [RelW]
theorem RelW.fn {k : Str} : RelW Ω H (.fn k) (.ref (Ω.fa k)) := by rw [RelW]
theorem RelW.cls {k : Str} : RelW Ω H (.cls k) (.ref (Ω.ca k)) := by rw [RelW]
theorem RelW.tup {a : Addr} {ws : List W} {xs : List V} (s : SqT Ω.K H a xs) (r : RelWs Ω H ws xs) : RelW Ω H (.tup ws) (.ref a) := by
  rw [RelW]; exact ⟨a, xs, rfl, s, r⟩
theorem RelW.i_non {v : V} (h : RelW Ω H .non v) : v = .non := by rwa [RelW] at h
theorem RelW.i_bl {b : Bool} {v : V} (h : RelW Ω H (.bl b) v) : v = .bl b := by rwa [RelW] at h
theorem RelW.i_int {i : Int} {v : V} (h : RelW Ω H (.int i) v) : v = .int i := by rwa [RelW] at h
theorem RelW.i_str {x : Str} {v : V} (h : RelW Ω H (.str x) v) : v = .str x := by rwa [RelW] at h
theorem RelW.i_ref {a : Addr} {v : V} (h : RelW Ω H (.ref a) v) : v = .ref a := by rwa [RelW] at h
theorem RelW.i_ty {n : String} {v : V} (h : RelW Ω H (.ty n) v) : v = .ty n := by rwa [RelW] at h
theorem RelW.i_fn {k : Str} {v : V} (h : RelW Ω H (.fn k) v) : v = .ref (Ω.fa k) := by rwa [RelW] at h
theorem RelW.i_cls {k : Str} {v : V} (h : RelW Ω H (.cls k) v) : v = .ref (Ω.ca k) := by rwa [RelW] at h
theorem RelW.scr {a : Addr} {ns : List Int} (s : SqF Ω.K H a (ns.map V.int)) : RelW Ω H (.scr ns) (.ref a) := by
  rw [RelW]; exact ⟨a, rfl, s⟩
theorem RelW.i_scr {ns : List Int} {v : V} (h : RelW Ω H (.scr ns) v) : ∃ a, v = .ref a ∧ SqF Ω.K H a (ns.map V.int) := by rwa [RelW] at h
theorem RelWk.get {a : Addr} : ∀ {tb : List (Str × W)} {k : Str} {w : W}, RelWk Ω H a tb → tb.lookup k = some w → ∃ u v, PySem.W.nsIn Ω.K a k = some (some u) ∧ RelV v u ∧ RelW Ω H w v
  | [], k, w, h, e => by cases e
  | (k', w') :: r, k, w, h, e => by
    rw [RelWk] at h
    rw [List.lookup_cons] at e
    split at e
    · rename_i hk
      have hk' : k = k' := by simpa using hk
      subst hk'
      cases e
      exact h.1
    · exact RelWk.get h.2 e
theorem RelW.i_kdc {x : Str} {tb : List (Str × W)} {v : V} (h : RelW Ω H (.kdc x tb) v) : v = .ref (Ω.ca x) ∧ KdP Ω (Ω.ca x) ∧ (∀ k, tb.lookup k = none → PySem.W.nsIn Ω.K (Ω.ca x) k = some none) ∧ RelWk Ω H (Ω.ca x) tb := by rwa [RelW] at h
theorem RelW.kd {x k : Str} {tb : List (Str × W)} {v : V} (h : RelW Ω H (.kdc x tb) v) : (∃ w u z, tb.lookup k = some w ∧ PySem.W.nsIn Ω.K (Ω.ca x) k = some (some u) ∧ RelV z u ∧ RelW Ω H w z) ∨ (tb.lookup k = none ∧ PySem.W.nsIn Ω.K (Ω.ca x) k = some none) := by
  obtain ⟨_, _, h1, h2⟩ := h.i_kdc
  cases e : tb.lookup k with
  | none => exact .inr ⟨rfl, h1 k e⟩
  | some w =>
    obtain ⟨u, z, a, b, c⟩ := h2.get e
    exact .inl ⟨w, u, z, rfl, a, b, c⟩
theorem RelW.i_tup {ws : List W} {v : V} (h : RelW Ω H (.tup ws) v) : ∃ a xs, v = .ref a ∧ SqT Ω.K H a xs ∧ RelWs Ω H ws xs := by rwa [RelW] at h
end

/-! ### slots -/
abbrev StW := List (Option W)
def RelS (Ω : Gd) (H : Hp) : StW → L2.St → Prop
  | [], s => s = []
  | none :: r, s => ∃ o q, s = o :: q ∧ RelS Ω H r q
  | some w :: r, s => ∃ v q, s = some v :: q ∧ RelW Ω H w v ∧ RelS Ω H r q
section
variable {Ω : Gd} {H H' : Hp}
theorem RelS.mono (t : TLe Ω H H') : ∀ {σ : StW} {s : L2.St}, RelS Ω H σ s → RelS Ω H' σ s
  | [], _, h => h
  | none :: r, _, ⟨o, q, e, h⟩ => ⟨o, q, e, RelS.mono t h⟩
  | some w :: r, _, ⟨v, q, e, a, h⟩ => ⟨v, q, e, a.mono t, RelS.mono t h⟩
theorem RelS.length : ∀ {σ : StW} {s : L2.St}, RelS Ω H σ s → σ.length = s.length
  | [], s, h => by rw [show s = [] from h]; rfl
  | none :: r, _, ⟨o, q, e, h⟩ => by rw [e, List.length_cons, List.length_cons, RelS.length h]
  | some w :: r, _, ⟨v, q, e, a, h⟩ => by rw [e, List.length_cons, List.length_cons, RelS.length h]
theorem RelS.get : ∀ {σ : StW} {s : L2.St} {i : Nat} {w : W}, RelS Ω H σ s → σ[i]? = some (some w) → ∃ v, s[i]? = some (some v) ∧ RelW Ω H w v
  | [], s, i, w, h, e => by simp at e
  | none :: r, _, 0, w, h, e => by simp at e
  | some w' :: r, _, 0, w, ⟨v, q, e', a, h⟩, e => by
    simp at e; subst e; subst e'
    exact ⟨v, rfl, a⟩
  | none :: r, _, i + 1, w, ⟨o, q, e', h⟩, e => by
    subst e'
    obtain ⟨v, a, b⟩ := RelS.get (i := i) h (by simpa using e)
    exact ⟨v, by simpa using a, b⟩
  | some w' :: r, _, i + 1, w, ⟨v', q, e', _, h⟩, e => by
    subst e'
    obtain ⟨v, a, b⟩ := RelS.get (i := i) h (by simpa using e)
    exact ⟨v, by simpa using a, b⟩
theorem RelS.set {w : W} {v : V} (a : RelW Ω H w v) : ∀ {σ : StW} {s : L2.St} (i : Nat), RelS Ω H σ s → RelS Ω H (σ.set i (some w)) (s.set i (some v))
  | [], s, i, h => by rw [show s = [] from h]; rfl
  | none :: r, _, 0, ⟨o, q, e, h⟩ => by subst e; exact ⟨v, q, rfl, a, h⟩
  | some w' :: r, _, 0, ⟨v', q, e, _, h⟩ => by subst e; exact ⟨v, q, rfl, a, h⟩
  | none :: r, _, i + 1, ⟨o, q, e, h⟩ => by subst e; exact ⟨o, q.set i (some v), rfl, RelS.set a i h⟩
  | some w' :: r, _, i + 1, ⟨v', q, e, c, h⟩ => by subst e; exact ⟨v', q.set i (some v), rfl, c, RelS.set a i h⟩
theorem RelS.unset : ∀ {σ : StW} {s : L2.St} (i : Nat) (o : Option V), RelS Ω H σ s → RelS Ω H (σ.set i none) (s.set i o)
  | [], s, i, _, h => by rw [show s = [] from h]; rfl
  | none :: r, _, 0, o', ⟨o, q, e, h⟩ => by subst e; exact ⟨o', q, rfl, h⟩
  | some w' :: r, _, 0, o', ⟨v', q, e, _, h⟩ => by subst e; exact ⟨o', q, rfl, h⟩
  | none :: r, _, i + 1, o', ⟨o, q, e, h⟩ => by subst e; exact ⟨o, q.set i o', rfl, RelS.unset i o' h⟩
  | some w' :: r, _, i + 1, o', ⟨v', q, e, c, h⟩ => by subst e; exact ⟨v', q.set i o', rfl, c, RelS.unset i o' h⟩
end

/-! ### the heap -/
inductive O where
  | lst (ws : List W)
  | dct (kvs : List (Key × W))
  /-- a dict that was walked: nobody writes it any more -/
  | fdc (kvs : List (Key × W))
  | ins (c : Str) (fs : List (Str × W))
  /-- the dict of an exception that was caught -/
  | xd (fs : List (Str × W))
abbrev HpW := Addr → Option O
def updW (H : HpW) (a : Addr) (o : O) : HpW := fun b => if b = a then some o else H b
theorem updW_same {H : HpW} {a : Addr} {o : O} : updW H a o a = some o := by unfold updW; rw [if_pos rfl]
theorem updW_ne {H : HpW} {a b : Addr} {o : O} (h : b ≠ a) : updW H a o b = H b := by unfold updW; rw [if_neg h]

def RelKs {κ : Type} (Ω : Gd) (H : Hp) : List (κ × W) → List (κ × V) → Prop
  | [], s => s = []
  | (k, w) :: r, s => ∃ v q, s = (k, v) :: q ∧ RelW Ω H w v ∧ RelKs Ω H r q
theorem RelKs.mono {κ : Type} {Ω : Gd} {H H' : Hp} (t : TLe Ω H H') : ∀ {l : List (κ × W)} {s : List (κ × V)}, RelKs Ω H l s → RelKs Ω H' l s
  | [], _, h => h
  | (k, w) :: r, _, ⟨v, q, e, a, h⟩ => ⟨v, q, e, a.mono t, RelKs.mono t h⟩
def RelOb (Ω : Gd) (H : Hp) (a : Addr) : O → Prop
  | .lst ws => ∃ xs, H a = some (.lst xs) ∧ RelWs Ω H ws xs
  | .dct kvs => ∃ xs, H a = some (.dK xs) ∧ RelKs Ω H kvs xs
  | .fdc kvs => ∃ o xs, H a = some (.frz o (.dK xs)) ∧ RelKs Ω H kvs xs
  | .ins c fs => ∃ dx xs, H a = some (.ins (Ω.ca c) dx xs) ∧ RelKs Ω H fs xs
  | .xd fs => ∃ xs, H a = some (.xd xs) ∧ RelKs Ω H fs xs
def RelH (Ω : Gd) (HW : HpW) (H : Hp) : Prop := ∀ a o, HW a = some o → RelOb Ω H a o
theorem RelOb.there {Ω : Gd} {H : Hp} {a : Addr} {o : O} (h : RelOb Ω H a o) : ∃ u, H a = some u := by
  cases o with
  | lst ws => obtain ⟨xs, e, _⟩ := h; exact ⟨_, e⟩
  | dct ws => obtain ⟨xs, e, _⟩ := h; exact ⟨_, e⟩
  | fdc ws => obtain ⟨o, xs, e, _⟩ := h; exact ⟨_, e⟩
  | ins c fs => obtain ⟨dx, xs, e, _⟩ := h; exact ⟨_, e⟩
  | xd fs => obtain ⟨xs, e, _⟩ := h; exact ⟨_, e⟩
theorem RelH.free {Ω : Gd} {HW : HpW} {H : Hp} (r : RelH Ω HW H) {p : Addr} (h : H p = none) : HW p = none := by
  cases e : HW p with
  | none => rfl
  | some o =>
    obtain ⟨u, q⟩ := (r p o e).there
    rw [h] at q; cases q
/-- other objects of H' stand as they did -/
theorem RelOb.keep {Ω : Gd} {H H' : Hp} {a : Addr} {o : O} (t : TLe Ω H H') (e : ∀ u, H a = some u → H' a = some u) (h : RelOb Ω H a o) : RelOb Ω H' a o := by
  cases o with
  | lst ws => obtain ⟨xs, q, r⟩ := h; exact ⟨xs, e _ q, r.mono t⟩
  | dct ws => obtain ⟨xs, q, r⟩ := h; exact ⟨xs, e _ q, r.mono t⟩
  | fdc ws => obtain ⟨o, xs, q, r⟩ := h; exact ⟨o, xs, e _ q, r.mono t⟩
  | ins c fs => obtain ⟨dx, xs, q, r⟩ := h; exact ⟨dx, xs, e _ q, r.mono t⟩
  | xd fs => obtain ⟨xs, q, r⟩ := h; exact ⟨xs, e _ q, r.mono t⟩
theorem SqT.keep {K : PySem.W.Frag} {H H' : Hp} {b : Addr} {xs : List V} (h : SqT K H b xs) (k : ∀ u, H b = some u → H' b = some u) : SqT K H' b xs := by
  rcases h with (h | ⟨o, h⟩) | h
  · exact .inl (.inl (k _ h))
  · exact .inl (.inr ⟨o, k _ h⟩)
  · exact .inr h
/-- a new object -/
theorem TLe.new {Ω : Gd} {H : Hp} {p : Addr} {o : HO} (h : H p = none) : TLe Ω H (upd H p o) := ⟨fun b xs q => SqT.keep q fun u e => by
  rw [upd_ne (ne_of_none e h)]; exact e, fun b u xs e => by rw [upd_ne (ne_of_none e h)]; exact e⟩
/-- no tuple stood there -/
def NoTup : HO → Prop
  | .tup _ => False
  | .frz _ _ => False
  | _ => True
theorem TLe.put {Ω : Gd} {H : Hp} {p : Addr} {o o' : HO} (h : H p = some o') (n : NoTup o') : TLe Ω H (upd H p o) := ⟨fun b xs q => by
  by_cases e : b = p
  · subst e
    rcases q with (q | ⟨u, q⟩) | q
    · rw [h] at q; cases q; exact n.elim
    · rw [h] at q; cases q; exact n.elim
    · exact .inr q
  · exact SqT.keep q fun u e' => by rw [upd_ne e]; exact e', fun b u xs q => by
  by_cases e : b = p
  · subst e
    rw [h] at q; cases q; exact n.elim
  · rw [upd_ne e]; exact q⟩
theorem RelH.new {Ω : Gd} {HW : HpW} {H : Hp} {p : Addr} {o : HO} {ow : O} (r : RelH Ω HW H) (h : H p = none) (n : RelOb Ω (upd H p o) p ow) : RelH Ω (updW HW p ow) (upd H p o) := fun a u e => by
  by_cases ea : a = p
  · subst ea; rw [updW_same] at e; cases e; exact n
  · rw [updW_ne ea] at e
    exact (r a u e).keep (TLe.new h) fun x q => by rw [upd_ne ea]; exact q
/-- a new object that is not told of -/
theorem RelH.new0 {Ω : Gd} {HW : HpW} {H : Hp} {p : Addr} {o : HO} (r : RelH Ω HW H) (h : H p = none) : RelH Ω HW (upd H p o) := fun a u e =>
  (r a u e).keep (TLe.new h) fun x q => by rw [upd_ne (ne_of_none q h)]; exact q
theorem RelH.put {Ω : Gd} {HW : HpW} {H : Hp} {p : Addr} {o o' : HO} {ow : O} (r : RelH Ω HW H) (h : H p = some o') (nt : NoTup o') (n : RelOb Ω (upd H p o) p ow) : RelH Ω (updW HW p ow) (upd H p o) := fun a u e => by
  by_cases ea : a = p
  · subst ea; rw [updW_same] at e; cases e; exact n
  · rw [updW_ne ea] at e
    exact (r a u e).keep (TLe.put h nt) fun x q => by rw [upd_ne ea]; exact q
theorem RelH.newL {Ω : Gd} {HW : HpW} {H : Hp} {p : Addr} {xs : List V} {ws : List W} (r : RelH Ω HW H) (h : H p = none) (q : RelWs Ω H ws xs) : RelH Ω (updW HW p (.lst ws)) (upd H p (.lst xs)) :=
  r.new h (show ∃ xs', _ ∧ _ from ⟨xs, upd_same, q.mono (TLe.new h)⟩)
theorem RelH.putL {Ω : Gd} {HW : HpW} {H : Hp} {p : Addr} {xs xs0 : List V} {ws : List W} (r : RelH Ω HW H) (h : H p = some (.lst xs0)) (q : RelWs Ω H ws xs) : RelH Ω (updW HW p (.lst ws)) (upd H p (.lst xs)) :=
  r.put h trivial (show ∃ xs', _ ∧ _ from ⟨xs, upd_same, q.mono (TLe.put h trivial)⟩)
theorem RelH.putD {Ω : Gd} {HW : HpW} {H : Hp} {p : Addr} {xs xs0 : List (Key × V)} {ws : List (Key × W)} (r : RelH Ω HW H) (h : H p = some (.dK xs0)) (q : RelKs Ω H ws xs) : RelH Ω (updW HW p (.dct ws)) (upd H p (.dK xs)) :=
  r.put h trivial (show ∃ xs', _ ∧ _ from ⟨xs, upd_same, q.mono (TLe.put h trivial)⟩)
theorem RelH.newD {Ω : Gd} {HW : HpW} {H : Hp} {p : Addr} {xs : List (Key × V)} {ws : List (Key × W)} (r : RelH Ω HW H) (h : H p = none) (q : RelKs Ω H ws xs) : RelH Ω (updW HW p (.dct ws)) (upd H p (.dK xs)) :=
  r.new h (show ∃ xs', _ ∧ _ from ⟨xs, upd_same, q.mono (TLe.new h)⟩)
theorem RelH.putI {Ω : Gd} {HW : HpW} {H : Hp} {p dx : Addr} {c : Str} {xs xs0 : List (Str × V)} {ws : List (Str × W)} (r : RelH Ω HW H) (h : H p = some (.ins (Ω.ca c) dx xs0)) (q : RelKs Ω H ws xs) : RelH Ω (updW HW p (.ins c ws)) (upd H p (.ins (Ω.ca c) dx xs)) :=
  r.put h trivial (show ∃ dx' xs', _ ∧ _ from ⟨dx, xs, upd_same, q.mono (TLe.put h trivial)⟩)
/-- H'' tells no more than H' -/
def Sub (H'' H' : HpW) : Prop := ∀ a o, H'' a = some o → H' a = some o
theorem Sub.refl {H : HpW} : Sub H H := fun _ _ h => h
theorem Sub.trans {H H1 H2 : HpW} (a : Sub H H1) (b : Sub H1 H2) : Sub H H2 := fun x o h => b x o (a x o h)
theorem RelH.sub {Ω : Gd} {HW HW' : HpW} {H : Hp} (r : RelH Ω HW H) (s : Sub HW' HW) : RelH Ω HW' H := fun a o e => r a o (s a o e)
theorem Sub.new {H : HpW} {p : Addr} {o : O} (h : H p = none) : Sub H (updW H p o) := fun a u e => by
  have : a ≠ p := by rintro rfl; rw [h] at e; cases e
  rw [updW_ne this]; exact e

/-! ### exceptions: a class, its fields -/
inductive XC where
  | own (c : Str) | blt (n : String)
  deriving DecidableEq
structure Ex where
  cls : XC
  fs : List (Str × W)
def Gd.xv (Ω : Gd) : XC → Value
  | .own c => .ref (Ω.ca c)
  | .blt n => .type n
def RelX (Ω : Gd) (HW : HpW) (H : Hp) (x : Ex) (c : Value) (d : Option Addr) : Prop :=
  c = Ω.xv x.cls ∧ ((x.fs = [] ∧ d = none) ∨ ∃ a xs, x.fs ≠ [] ∧ d = some a ∧ HW a = none ∧ H a = some (.xd xs) ∧ RelKs Ω H x.fs xs)
theorem RelX.sub {Ω : Gd} {HW HW' : HpW} {H : Hp} {x : Ex} {c : Value} {d : Option Addr} (r : RelX Ω HW H x c d) (s : Sub HW' HW) : RelX Ω HW' H x c d := by
  obtain ⟨h, r⟩ := r
  refine ⟨h, r.imp id ?_⟩
  rintro ⟨a, xs, h1, h2, h3, h4⟩
  refine ⟨a, xs, h1, h2, ?_, h4⟩
  cases e : HW' a with
  | none => rfl
  | some o => rw [s a o e] at h3; cases h3

/-! ### readings -/
abbrev QW := W → HpW → Prop
abbrev EW := Ex → HpW → Prop
abbrev TEW := StW → HpW → QW → EW → Prop
abbrev TTW := StW → HpW → (Bool → HpW → Prop) → EW → Prop
abbrev TAW := StW → HpW → (List W → HpW → Prop) → EW → Prop
structure EndsW where
  nx : StW → HpW → Prop
  rt : QW
  bk : StW → HpW → Prop
  ct : StW → HpW → Prop
  ex : Ex → StW → HpW → Prop
abbrev TSW := EndsW → StW → HpW → Prop
end Uw

namespace Uw
open PySem PySem.Spec PyProof.Rows L2

/-! ### from W to V -/
def Nrm (Ω : Gd) (H : Hp) (q : QW) (Q : VK) : Prop := ∀ w HW' v H', TLe Ω H H' → RelW Ω H' w v → RelH Ω HW' H' → q w HW' → Q v H'
def Xrm (Ω : Gd) (H : Hp) (e : EW) (E : XK) : Prop := ∀ x HW' c d H', TLe Ω H H' → RelX Ω HW' H' x c d → RelH Ω HW' H' → e x HW' → E c d H'
theorem Nrm.later {Ω : Gd} {H H1 : Hp} {q : QW} {Q : VK} (n : Nrm Ω H q Q) (t : TLe Ω H H1) : Nrm Ω H1 q Q := fun w HW' v H' t' => n w HW' v H' (t.trans t')
theorem Xrm.later {Ω : Gd} {H H1 : Hp} {q : EW} {Q : XK} (n : Xrm Ω H q Q) (t : TLe Ω H H1) : Xrm Ω H1 q Q := fun w HW' v d H' t' => n w HW' v d H' (t.trans t')
theorem Nrm.here {Ω : Gd} {H : Hp} {q : QW} {Q : VK} (n : Nrm Ω H q Q) {w : W} {HW : HpW} {v : V} (r : RelW Ω H w v) (h : RelH Ω HW H) (z : q w HW) : Q v H := n w HW v H TLe.refl r h z

def canE (Ω : Gd) (Wx : WX) (t : TEW) : TE := fun σ H Q => ∃ σW HW q e, RelS Ω H σW σ ∧ RelH Ω HW H ∧ t σW HW q e ∧ Nrm Ω H q Q ∧ Xrm Ω H e (fun c d H' => Wx c d σ H')
def canT (Ω : Gd) (Wx : WX) (t : TTW) : TT := fun σ H Q => ∃ σW HW q e, RelS Ω H σW σ ∧ RelH Ω HW H ∧ t σW HW q e ∧ (∀ b HW' H', TLe Ω H H' → RelH Ω HW' H' → q b HW' → Q b H') ∧ Xrm Ω H e (fun c d H' => Wx c d σ H')
def canA (Ω : Gd) (Wx : WX) (t : TAW) : TA := fun σ H Q => ∃ σW HW q e, RelS Ω H σW σ ∧ RelH Ω HW H ∧ t σW HW q e ∧ (∀ ws HW' vs H', TLe Ω H H' → RelWs Ω H' ws vs → RelH Ω HW' H' → q ws HW' → Q vs H') ∧ Xrm Ω H e (fun c d H' => Wx c d σ H')
structure EndsR (Ω : Gd) (Wx : WX) (H : Hp) (DW : EndsW) (D : Ends) : Prop where
  nx : ∀ σW HW σ H', TLe Ω H H' → RelS Ω H' σW σ → RelH Ω HW H' → DW.nx σW HW → D.nx σ H'
  rt : Nrm Ω H DW.rt D.rt
  bk : ∀ σW HW σ H', TLe Ω H H' → RelS Ω H' σW σ → RelH Ω HW H' → DW.bk σW HW → D.bk σ H'
  ct : ∀ σW HW σ H', TLe Ω H H' → RelS Ω H' σW σ → RelH Ω HW H' → DW.ct σW HW → D.ct σ H'
  ex : ∀ x σW HW c d σ H', TLe Ω H H' → RelX Ω HW H' x c d → RelS Ω H' σW σ → RelH Ω HW H' → DW.ex x σW HW → Wx c d σ H'
theorem EndsR.later {Ω : Gd} {Wx : WX} {H H1 : Hp} {DW : EndsW} {D : Ends} (r : EndsR Ω Wx H DW D) (t : TLe Ω H H1) : EndsR Ω Wx H1 DW D :=
  ⟨fun a b c d e => r.nx a b c d (t.trans e), r.rt.later t, fun a b c d e => r.bk a b c d (t.trans e), fun a b c d e => r.ct a b c d (t.trans e), fun a b c d e f g h => r.ex a b c d e f g (t.trans h)⟩
/-- what an expression within the statement wishes of exceptions: at the slots as they stand -/
theorem EndsR.xrm {Ω : Gd} {Wx : WX} {H : Hp} {DW : EndsW} {D : Ends} (r : EndsR Ω Wx H DW D) {σW : StW} {σ : L2.St} (rs : RelS Ω H σW σ) : Xrm Ω H (fun x HW => DW.ex x σW HW) (fun c d H' => Wx c d σ H') :=
  fun x HW' c d H' t rx rh z => r.ex x σW HW' c d σ H' t rx (rs.mono t) rh z
def canS (Ω : Gd) (Wx : WX) (t : TSW) : TS := fun D σ H => ∃ σW HW DW, RelS Ω H σW σ ∧ RelH Ω HW H ∧ t DW σW HW ∧ EndsR Ω Wx H DW D

section
variable {X : Cx}
theorem peW {e : Expr} {t t' : TE} (h : PE X e t) (w : ∀ σ H Q, t' σ H Q → t σ H Q) : PE X e t' := ⟨fun pins s σ H Q I q => h.run pins s σ H Q I (w _ _ _ q)⟩
theorem ptW {e : Expr} {t t' : TT} (h : PT X e t) (w : ∀ σ H Q, t' σ H Q → t σ H Q) : PT X e t' := ⟨fun pins s σ H Q I q => h.run pins s σ H Q I (w _ _ _ q)⟩
theorem pwW {e : Expr} {t t' : TT} (h : PW X e t) (w : ∀ σ H Q, t' σ H Q → t σ H Q) : PW X e t' := ⟨fun wh pins s σ H Q I q => h.run wh pins s σ H Q I (w _ _ _ q)⟩
theorem paW {e : List Expr} {t t' : TA} (h : PA X e t) (w : ∀ σ H Q, t' σ H Q → t σ H Q) : PA X e t' := ⟨fun pos pins s σ H Q I q => h.run pos pins s σ H Q I (w _ _ _ q)⟩
theorem psW {e : Stmt} {t t' : TS} (h : PS X e t) (w : ∀ D σ H, t' D σ H → t D σ H) : PS X e t' := ⟨fun pins s σ H Q I q => h.run pins s σ H Q I (w _ _ _ q)⟩
theorem pssW {e : List Stmt} {t t' : TS} (h : PSs X e t) (w : ∀ D σ H, t' D σ H → t D σ H) : PSs X e t' := ⟨fun pins s σ H Q I q => h.run pins s σ H Q I (w _ _ _ q)⟩
end

/-! ### the semantics by values -/
/-- what a call does, by level: the def's key, the arguments -/
abbrev CallW := Str → List W → HpW → QW → EW → Prop

/-- slots -/
def sg : StW → Nat → Option W
  | [], _ => none
  | o :: _, 0 => o
  | _ :: r, n + 1 => sg r n
theorem sg_eq : ∀ {σ : StW} {i : Nat} {w : W}, sg σ i = some w → σ[i]? = some (some w)
  | [], _, _, h => by simp [sg] at h
  | o :: _, 0, _, h => by simp [sg] at h; simp [h]
  | _ :: r, n + 1, _, h => by simp only [sg] at h; simpa using sg_eq h

/-- data: no references -/
def pd : W → Option PyData
  | .non => some .none
  | .bl b => some (.bool b)
  | .int i => some (.int i)
  | .str x => some (.str x)
  | _ => none
end Uw

namespace Uw
open PySem PySem.Spec PyProof.Rows L2

/-! ### data through the heap -/
mutual
inductive DpW (H : HpW) : W → PyData → Prop
  | non : DpW H .non .none
  | bl (b : Bool) : DpW H (.bl b) (.bool b)
  | int (i : Int) : DpW H (.int i) (.int i)
  | str (x : Str) : DpW H (.str x) (.str x)
  | tup {ws : List W} {ds : List PyData} : DpWs H ws ds → DpW H (.tup ws) (.tuple ds)
  | lst {a : Addr} {ws : List W} {ds : List PyData} : H a = some (.lst ws) → DpWs H ws ds → DpW H (.ref a) (.list ds)
inductive DpWs (H : HpW) : List W → List PyData → Prop
  | nil : DpWs H [] []
  | cons {w : W} {ws : List W} {d : PyData} {ds : List PyData} : DpW H w d → DpWs H ws ds → DpWs H (w :: ws) (d :: ds)
end
mutual
theorem DpW.to {Ω : Gd} {HW : HpW} {H : Hp} (r : RelH Ω HW H) : ∀ {w : W} {d : PyData} {v : V}, DpW HW w d → RelW Ω H w v → Dp Ω.K H v d
  | _, _, _, .non, h => by rw [h.i_non]; exact .non
  | _, _, _, .bl b, h => by rw [h.i_bl]; exact .bl b
  | _, _, _, .int b, h => by rw [h.i_int]; exact .int b
  | _, _, _, .str b, h => by rw [h.i_str]; exact .str b
  | _, _, _, .tup q, h => by
    obtain ⟨a, xs, rfl, s, t⟩ := h.i_tup
    exact .tup s (DpWs.to r q t)
  | _, _, _, .lst e q, h => by
    rw [h.i_ref]
    obtain ⟨xs, e', t⟩ := r _ _ e
    exact .lst (SqL.of e') (DpWs.to r q t)
theorem DpWs.to {Ω : Gd} {HW : HpW} {H : Hp} (r : RelH Ω HW H) : ∀ {ws : List W} {ds : List PyData} {vs : List V}, DpWs HW ws ds → RelWs Ω H ws vs → DpAll Ω.K H vs ds
  | _, _, _, .nil, h => by rw [h.inv_nil]; exact .nil
  | _, _, _, .cons a b, h => by
    obtain ⟨v, q, rfl, x, y⟩ := h.inv_cons
    exact .cons (DpW.to r a x) (DpWs.to r b y)
end

/-! ### binary operators -/
/-- a product's size: one factor small, or both together below a million bits -/
def MulOk (i j : Int) : Prop := CMul i j ∨ CMulW i j
/-- a text n times -/
def repS (x : Str) (n : Nat) : Str := ⟨(List.replicate n x.cps).foldl (· ++ ·) #[]⟩
def binW : Operator → W → W → HpW → QW → Prop
  | .Add, .int i, .int j, H, Q => Q (.int (i + j)) H
  | .Add, .str a, .str b, H, Q => a.length + b.length ≤ sizeLine ∧ Q (.str (a ++ b)) H
  | .Add, .tup a, .tup b, H, Q => a.length + b.length ≤ sizeLine ∧ Q (.tup (a ++ b)) H
  | .Add, .ref a, .ref b, H, Q => ∃ xs ys, H a = some (.lst xs) ∧ H b = some (.lst ys) ∧ xs.length + ys.length ≤ sizeLine ∧ ∀ p, H p = none → Q (.ref p) (updW H p (.lst (xs ++ ys)))
  | .Sub, .int i, .int j, H, Q => Q (.int (i - j)) H
  | .Mult, .int i, .int j, H, Q => MulOk i j ∧ Q (.int (i * j)) H
  | .Mult, .str x, .int j, H, Q => (x.length ≤ 1000 ∧ 0 ≤ j ∧ j ≤ 1000) ∧ Q (.str (repS x j.toNat)) H
  | .FloorDiv, .int i, .int j, H, Q => (0 < j ∧ (j < 1073741824 ∨ j.natAbs.log2 < 9000)) ∧ Q (.int (i / j)) H
  | .Mod, .int i, .int j, H, Q => 0 < j ∧ Q (.int (i % j)) H
  | .Pow, .int i, .int j, H, Q => CPow i j ∧ Q (.int (i ^ j.toNat)) H
  | .LShift, .int i, .int j, H, Q => CPow i j ∧ Q (.int (i * 2 ^ j.toNat)) H
  | .RShift, .int i, .int j, H, Q => 0 ≤ j ∧ Q (.int (i / 2 ^ j.toNat)) H
  | .BitAnd, .int i, .int j, H, Q => Q (.int (Builtin.bitAnd i j)) H
  | .BitOr, .int i, .int j, H, Q => Q (.int (Builtin.bitOr i j)) H
  | _, _, _, _, _ => False
/-- a reading by values, from W to V -/
def canOp (Ω : Gd) (r : W → W → HpW → QW → Prop) : R2 := fun v u H Q => ∃ x y HW q, RelW Ω H x v ∧ RelW Ω H y u ∧ RelH Ω HW H ∧ r x y HW q ∧ Nrm Ω H q Q
/-- the tables of defs and classes beside a context -/
structure Ad where
  fa : Str → Addr
  ca : Str → Addr
  fd : Str → FuncData
abbrev om (X : Cx) (A : Ad) : Gd := ⟨X.K, A.fa, A.ca, X.w.params⟩
section
variable {X : Cx} {A : Ad}
theorem rep_len (c : Array Nat) : ∀ (n : Nat) (a : Array Nat), ((List.replicate n c).foldl (· ++ ·) a).size = a.size + n * c.size
  | 0, a => by simp
  | n + 1, a => by
    rw [List.replicate_succ, List.foldl_cons, rep_len c n, Array.size_append, Nat.succ_mul]
    omega
theorem op_repS : OpR X (binaryOp .Mult) (fun v u H Q => ∃ x j, v = .str x ∧ u = .int j ∧ (x.length ≤ 1000 ∧ 0 ≤ j ∧ j ≤ 1000) ∧ Q (.str (repS x j.toNat)) H) := by
  intro pins s σ H v u vv uu Q I r1 r2 ⟨x, j, e1, e2, ⟨h1, h2, h3⟩, q⟩
  subst e1 e2
  obtain ⟨t, rfl⟩ := r1
  obtain ⟨t', rfl⟩ := r2
  have fin : ∀ (z : Str) (tk : Nat) (tt : Tok), z = repS x j.toNat → EP X pins σ Q (.str z tt) { s with toks := tk } := fun z tk tt e => by
    subst e
    exact ⟨.str _, H, I.tok _, ⟨tt, rfl⟩, q⟩
  have hx : x.length * j.toNat ≤ 1000000 := by
    have := Nat.mul_le_mul h1 (show j.toNat ≤ 1000 by omega)
    omega
  refine P.mul_str (by
      have a1 : ¬ j < -(2 ^ 63 : Int) := by omega
      have a2 : ¬ j ≥ 2 ^ 63 := by omega
      rw [decide_eq_false a1, decide_eq_false a2]; rfl) (fun g1 _ => ?_) (fun _ _ => ?_) ?_
  · have g2 : (0 : Int) < j := by omega
    have : (1000 : Int) ≤ (2 ^ 63 - 1) / j := by
      rw [Int.le_ediv_iff_mul_le g2]
      omega
    omega
  · have : sizeLine = 16777216 := rfl
    exact decide_eq_false (p := x.length * j.toNat > sizeLine) (by omega)
  · split
    · rename_i g
      have : j = 0 := by omega
      subst this
      exact ⟨by decide, fin _ _ _ rfl⟩
    · split
      · rename_i g0 g
        refine fin _ _ _ ?_
        cases x with
        | mk c =>
          unfold repS
          rw [Bool.or_eq_true] at g
          rcases g with g | g
          · have : j = 1 := by simpa using g
            subst this
            simp
          · have hc : c = #[] := by
              have : c.size = 0 := by simpa [Str.length] using g
              exact Array.eq_empty_of_size_eq_zero this
            subst hc
            have : ∀ n : Nat, (List.replicate n (#[] : Array Nat)).foldl (· ++ ·) #[] = #[] := by
              intro n
              induction n with
              | zero => rfl
              | succ n ih => rw [List.replicate_succ, List.foldl_cons]; simpa using ih
            rw [this]
      · refine ⟨?_, fin _ _ _ rfl⟩
        have : (repS x j.toNat).length ≤ 1000000 := by
          show ((List.replicate j.toNat x.cps).foldl (· ++ ·) #[]).size ≤ _
          rw [rep_len]
          have e : x.cps.size = x.length := rfl
          rw [e, Nat.mul_comm]
          simpa using hx
        have e2 : sizeLine = 16777216 := rfl
        exact Nat.le_trans this (by rw [e2]; decide)
theorem op_bin {op : Operator} : OpR X (binaryOp op) (canOp (om X A) (binW op)) := by
  intro pins s σ H v u vv uu Q I r1 r2 ⟨x, y, HW, q, rx, ry, rh, h, n⟩
  have ii : ∀ {i j : Int} {z : Int}, x = .int i → y = .int j → q (.int z) HW → Q (.int z) H := fun _ _ hq => n.here .int rh hq
  cases op <;> cases x <;> cases y <;> first
    | exact False.elim h
    | skip
  all_goals first
    | (obtain rfl := rx.i_int; obtain rfl := ry.i_int)
    | (obtain rfl := rx.i_str; obtain rfl := ry.i_str)
    | (obtain rfl := rx.i_ref; obtain rfl := ry.i_ref)
    | (obtain rfl := rx.i_str; obtain rfl := ry.i_int)
    | skip
  · exact op_add pins s σ H _ _ _ _ Q I r1 r2 ⟨_, _, rfl, rfl, n.here .int rh h⟩
  · exact op_add_str pins s σ H _ _ _ _ Q I r1 r2 ⟨_, _, rfl, rfl, h.1, n.here .str rh h.2⟩
  · obtain ⟨a, xs, rfl, sa, ra⟩ := rx.i_tup
    obtain ⟨b, ys, rfl, sb, rb⟩ := ry.i_tup
    have la := ra.length
    have lb := rb.length
    obtain ⟨hl, hq⟩ := h
    refine op_catA pins s σ H _ _ _ _ Q I r1 r2 ⟨a, b, xs, ys, rfl, rfl, sa, sb, by omega, fun e => ?_, fun _ e => ?_, fun _ _ p hp => ?_⟩
    · subst e
      have e0 := List.eq_nil_of_length_eq_zero la
      subst e0
      exact n.here (.tup sb rb) rh hq
    · subst e
      have e0 := List.eq_nil_of_length_eq_zero lb
      subst e0
      exact n.here (.tup sa (by rw [List.append_nil]; exact ra)) rh hq
    · have t := TLe.new (Ω := om X A) (o := HO.tup (xs ++ ys)) hp
      exact n _ _ _ _ t (.tup (SqT.of upd_same) ((ra.mono t).append (rb.mono t))) (rh.new0 hp) hq
  · obtain ⟨xs, ys, ea, eb, hl, hq⟩ := h
    obtain ⟨xv, ea', ra⟩ := rh _ _ ea
    obtain ⟨yv, eb', rb⟩ := rh _ _ eb
    refine op_cat pins s σ H _ _ _ _ Q I r1 r2 ⟨_, _, xv, yv, rfl, rfl, ea', eb', by rw [← ra.length, ← rb.length]; exact hl, fun p hp => ?_⟩
    have t := TLe.new (Ω := om X A) (o := HO.lst (xv ++ yv)) hp
    exact n _ _ _ _ t .ref (rh.newL hp (ra.append rb)) (hq p (rh.free hp))
  · exact op_sub pins s σ H _ _ _ _ Q I r1 r2 ⟨_, _, rfl, rfl, n.here .int rh h⟩
  · rcases h.1 with hm | hm
    · exact op_mul pins s σ H _ _ _ _ Q I r1 r2 ⟨_, _, rfl, rfl, hm, n.here .int rh h.2⟩
    · exact op_mulW pins s σ H _ _ _ _ Q I r1 r2 ⟨_, _, rfl, rfl, hm, n.here .int rh h.2⟩
  · exact op_repS pins s σ H _ _ _ _ Q I r1 r2 ⟨_, _, rfl, rfl, h.1, n.here .str rh h.2⟩
  · exact op_mod pins s σ H _ _ _ _ Q I r1 r2 ⟨_, _, rfl, rfl, h.1, n.here .int rh h.2⟩
  · exact op_pow pins s σ H _ _ _ _ Q I r1 r2 ⟨_, _, rfl, rfl, h.1, n.here .int rh h.2⟩
  · exact op_shl pins s σ H _ _ _ _ Q I r1 r2 ⟨_, _, rfl, rfl, h.1, n.here .int rh h.2⟩
  · exact op_shr pins s σ H _ _ _ _ Q I r1 r2 ⟨_, _, rfl, rfl, h.1, n.here .int rh h.2⟩
  · exact op_or pins s σ H _ _ _ _ Q I r1 r2 ⟨_, _, rfl, rfl, n.here .int rh h⟩
  · exact op_and pins s σ H _ _ _ _ Q I r1 r2 ⟨_, _, rfl, rfl, n.here .int rh h⟩
  · rcases h.1.2 with hm | hm
    · exact op_fdiv pins s σ H _ _ _ _ Q I r1 r2 ⟨_, _, rfl, rfl, ⟨h.1.1, hm⟩, n.here .int rh h.2⟩
    · exact op_fdivW pins s σ H _ _ _ _ Q I r1 r2 ⟨_, _, rfl, rfl, ⟨h.1.1, hm⟩, n.here .int rh h.2⟩
end
end Uw

namespace Uw
open PySem PySem.Spec PyProof.Rows L2

/-- == of two plain values that are told without looking further -/
def scalE : W → W → Option Bool
  | .non, .non => some true
  | .non, .int _ => some false
  | .int _, .non => some false
  | .non, .bl _ => some false
  | .bl _, .non => some false
  | .non, .str _ => some false
  | .str _, .non => some false
  | .int i, .int j => some (decide (i = j))
  | .bl i, .bl j => some (decide (i = j))
  | .str i, .str j => some (decide (i = j))
  | .int _, .str _ => some false
  | .str _, .int _ => some false
  | .bl _, .str _ => some false
  | .str _, .bl _ => some false
  | _, _ => none
def eqW (neg : Bool) (x y : W) (H : HpW) (Q : QW) : Prop := match scalE x y with
  | some b => Q (.bl (b != neg)) H
  | none => ∃ d e, DpW H x d ∧ DpW H y e ∧ SeqAt.shaped d = true ∧ SeqAt.shaped e = true ∧ Q (.bl (PyData.eqv d e != neg)) H
def isNon : W → Bool
  | .non => true
  | _ => false
def isBl (b : Bool) : W → Bool
  | .bl c => c == b
  | _ => false
/-- x is None, x is True, x is False -/
def isW (neg : Bool) (x : W) : W → HpW → QW → Prop
  | .non, H, Q => Q (.bl (isNon x != neg)) H
  | .bl b, H, Q => Q (.bl (isBl b x != neg)) H
  | _, _, _ => False
/-- a flat value: no object -/
def flatW : W → Bool
  | .non => true
  | .bl _ => true
  | .int _ => true
  | .str _ => true
  | _ => false
def eqF : W → W → Bool
  | .non, .non => true
  | .bl a, .bl b => a == b
  | .bl a, .int b => (if a then 1 else 0) == b
  | .int a, .bl b => a == (if b then 1 else 0)
  | .int a, .int b => a == b
  | .str a, .str b => a == b
  | _, _ => false
def inF (x : W) (ws : List W) : Bool := ws.any fun y => eqF y x
/-- a text of one sign in a text -/
def signIn (a z : Str) : Bool := match a.cps.toList with
  | [c] => decide (c ∈ z.cps.toList)
  | _ => !(Builtin.Str.occurrences z a 0 z.length 1).isEmpty
def keyW : W → Option Key
  | .int i => some (.inl i)
  | .str x => some (.inr x)
  | _ => none
def valW {κ : Type} [DecidableEq κ] (kvs : List (κ × W)) (k : κ) : Option W := (kvs.find? fun kv => decide (kv.1 = k)).map (·.2)
def inW (neg : Bool) (x : W) : W → HpW → QW → Prop
  | .tup ws, H, Q => flatW x = true ∧ ws.all flatW = true ∧ Q (.bl (inF x ws != neg)) H
  | .str z, H, Q => (match x with
    | .str a => Q (.bl (signIn a z != neg)) H
    | _ => False)
  | .ref a, H, Q => (match H a with
    | some (.lst ws) => (flatW x = true ∧ ws.all flatW = true ∧ Q (.bl (inF x ws != neg)) H) ∨
        ∃ d ds, DpW H x d ∧ DpW H (.ref a) (.list ds) ∧ SeqAt.shaped d = true ∧ SeqAt.shaped (.list ds) = true ∧ Q (.bl ((ds.any fun z => PyData.eqv z d) != neg)) H
    | some (.dct kvs) => (match keyW x with
      | some k => Q (.bl ((valW kvs k).isSome != neg)) H
      | none => False)
    | some (.fdc kvs) => (match keyW x with
      | some k => Q (.bl ((valW kvs k).isSome != neg)) H
      | none => False)
    | _ => False)
  | .kdc _ tb, H, Q => (match x with
    | .str k => Q (.bl ((tb.lookup k).isSome != neg)) H
    | _ => False)
  | _, _, _ => False
def cmpW : CmpOp → W → W → HpW → QW → Prop
  | .Eq, x, y, H, Q => eqW false x y H Q
  | .NotEq, x, y, H, Q => eqW true x y H Q
  | .Lt, .int i, .int j, H, Q => Q (.bl (decide (i < j))) H
  | .LtE, .int i, .int j, H, Q => Q (.bl (decide (i ≤ j))) H
  | .Gt, .int i, .int j, H, Q => Q (.bl (decide (j < i))) H
  | .GtE, .int i, .int j, H, Q => Q (.bl (decide (j ≤ i))) H
  | .Is, x, y, H, Q => isW false x y H Q
  | .IsNot, x, y, H, Q => isW true x y H Q
  | .In, x, y, H, Q => inW false x y H Q
  | .NotIn, x, y, H, Q => inW true x y H Q
  | _, _, _, _, _ => False

section
variable {X : Cx} {A : Ad}
theorem scal_ok {Ω : Gd} {H : Hp} {x y : W} {v u : V} {b : Bool} (rx : RelW Ω H x v) (ry : RelW Ω H y u) (e : scalE x y = some b) : scal v u = true ∧ b = decide (v = u) := by
  cases x <;> cases y <;> first | (simp [scalE] at e; done) | skip
  all_goals (first | (obtain rfl := rx.i_non) | (obtain rfl := rx.i_int) | (obtain rfl := rx.i_bl) | (obtain rfl := rx.i_str))
  all_goals (first | (obtain rfl := ry.i_non) | (obtain rfl := ry.i_int) | (obtain rfl := ry.i_bl) | (obtain rfl := ry.i_str))
  all_goals (simp only [scalE, Option.some.injEq] at e; subst e; exact ⟨rfl, by simp⟩)
theorem eqW_ok {neg : Bool} (hu : X.A.units + 64 < cLine) {op : CmpOp} (h1 : neg = false → op = .Eq) (h2 : neg = true → op = .NotEq) : OpR X (compareOp op) (canOp (om X A) (eqW neg)) := by
  intro pins s σ H v u vv uu Q I r1 r2 ⟨x, y, HW, q, rx, ry, rh, h, n⟩
  unfold eqW at h
  cases e : scalE x y with
  | some b =>
    rw [e] at h
    obtain ⟨h3, h4⟩ := scal_ok rx ry e
    cases neg with
    | false =>
      rw [h1 rfl]
      refine op_eq pins s σ H v u vv uu Q I r1 r2 ⟨h3, n.here .bl rh ?_⟩
      rw [← h4]; simpa using h
    | true =>
      rw [h2 rfl]
      refine op_ne pins s σ H v u vv uu Q I r1 r2 ⟨h3, n.here .bl rh ?_⟩
      rw [← h4]; simpa using h
  | none =>
    rw [e] at h
    obtain ⟨d, f, h3, h4, h5, h6, h7⟩ := h
    cases neg with
    | false =>
      rw [h1 rfl]
      exact op_eqD hu pins s σ H v u vv uu Q I r1 r2 ⟨d, f, h3.to rh rx, h4.to rh ry, h5, h6, n.here .bl rh (by simpa using h7)⟩
    | true =>
      rw [h2 rfl]
      exact op_neD hu pins s σ H v u vv uu Q I r1 r2 ⟨d, f, h3.to rh rx, h4.to rh ry, h5, h6, n.here .bl rh (by simpa using h7)⟩
theorem non_ok {Ω : Gd} {H : Hp} {x : W} {v : V} (rx : RelW Ω H x v) : decide (v = .non) = isNon x := by
  cases x
  · rw [rx.i_non]; rfl
  · rw [rx.i_bl]; rfl
  · rw [rx.i_int]; rfl
  · rw [rx.i_str]; rfl
  · obtain ⟨a, xs, e, _⟩ := rx.i_tup; rw [e]; rfl
  · rw [rx.i_ref]; rfl
  · rw [rx.i_ty]; rfl
  · rw [rx.i_fn]; rfl
  · rw [rx.i_cls]; rfl
  · obtain ⟨a, e, _⟩ := rx.i_scr; rw [e]; rfl
  · obtain ⟨e, _⟩ := rx.i_kdc; rw [e]; rfl
theorem isV_bl {v : V} {vv : Value} (r : RelV v vv) (b : Bool) : plainIs vv (.bool b) = true ∧ (vv == Value.bool b) = decide (v = .bl b) := by
  cases v with
  | non => cases r; exact ⟨rfl, rfl⟩
  | bl c =>
    cases r
    refine ⟨rfl, ?_⟩
    cases b <;> cases c <;> rfl
  | int i => obtain ⟨t, rfl⟩ := r; exact ⟨rfl, rfl⟩
  | str i => obtain ⟨t, rfl⟩ := r; exact ⟨rfl, rfl⟩
  | byt i => obtain ⟨t, rfl⟩ := r; exact ⟨rfl, rfl⟩
  | flt i => obtain ⟨t, rfl⟩ := r; exact ⟨rfl, rfl⟩
  | ref i => cases r; exact ⟨rfl, rfl⟩
  | ty i => cases r; exact ⟨rfl, rfl⟩
theorem bl_ok {Ω : Gd} {H : Hp} {x : W} {v : V} (rx : RelW Ω H x v) (b : Bool) : decide (v = .bl b) = isBl b x := by
  cases x
  · rw [rx.i_non]; rfl
  · rename_i c; rw [rx.i_bl]; cases b <;> cases c <;> rfl
  · rw [rx.i_int]; rfl
  · rw [rx.i_str]; rfl
  · obtain ⟨a, xs, e, _⟩ := rx.i_tup; rw [e]; rfl
  · rw [rx.i_ref]; rfl
  · rw [rx.i_ty]; rfl
  · rw [rx.i_fn]; rfl
  · rw [rx.i_cls]; rfl
  · obtain ⟨a, e, _⟩ := rx.i_scr; rw [e]; rfl
  · obtain ⟨e, _⟩ := rx.i_kdc; rw [e]; rfl
theorem isW_ok {neg : Bool} {op : CmpOp} (h1 : neg = false → op = .Is) (h2 : neg = true → op = .IsNot) : OpR X (compareOp op) (canOp (om X A) (isW neg)) := by
  intro pins s σ H v u vv uu Q I r1 r2 ⟨x, y, HW, q, rx, ry, rh, h, n⟩
  cases y <;> first | exact False.elim h | skip
  · have e := non_ok rx
    obtain rfl := ry.i_non
    have h : q (.bl (isNon x != neg)) HW := h
    cases neg with
    | false => rw [h1 rfl]; exact op_isN pins s σ H v _ vv uu Q I r1 r2 ⟨rfl, n.here .bl rh (by rw [e]; simpa using h)⟩
    | true => rw [h2 rfl]; exact op_notN pins s σ H v _ vv uu Q I r1 r2 ⟨rfl, n.here .bl rh (by rw [e]; simpa using h)⟩
  · rename_i b
    have e := bl_ok rx b
    obtain rfl := ry.i_bl
    obtain rfl : uu = Value.bool b := r2
    obtain ⟨p1, p2⟩ := isV_bl r1 b
    have h : q (.bl (isBl b x != neg)) HW := h
    cases neg with
    | false =>
      rw [h1 rfl]
      refine wpAny_is_plain p1 ⟨.bl _, H, I, rfl, n.here .bl rh ?_⟩
      rw [p2, e]; simpa using h
    | true =>
      rw [h2 rfl]
      refine wpAny_isNot_plain p1 ⟨.bl _, H, I, rfl, n.here .bl rh ?_⟩
      rw [p2, e]; simpa using h
theorem flat_ok {Ω : Gd} {H : Hp} {x : W} {v : V} (rx : RelW Ω H x v) (f : flatW x = true) : flatV v = true := by
  cases x <;> first | (simp [flatW] at f; done) | skip
  · rw [rx.i_non]; rfl
  · rw [rx.i_bl]; rfl
  · rw [rx.i_int]; rfl
  · rw [rx.i_str]; rfl
theorem flats_ok {Ω : Gd} {H : Hp} : ∀ {ws : List W} {vs : List V}, RelWs Ω H ws vs → ws.all flatW = true → vs.all flatV = true
  | [], vs, r, _ => by rw [r.inv_nil]; rfl
  | w :: ws, vs, r, f => by
    obtain ⟨v, q, rfl, a, b⟩ := r.inv_cons
    rw [List.all_cons, Bool.and_eq_true] at f
    rw [List.all_cons, flat_ok a f.1, flats_ok b f.2]; rfl
theorem eqF_ok {Ω : Gd} {H : Hp} {x y : W} {v u : V} (rx : RelW Ω H x v) (ry : RelW Ω H y u) (f : flatW x = true) (g : flatW y = true) : eqV v u = eqF x y := by
  cases x <;> first | (simp [flatW] at f; done) | skip
  all_goals (cases y <;> first | (simp [flatW] at g; done) | skip)
  all_goals (first | (obtain rfl := rx.i_non) | (obtain rfl := rx.i_int) | (obtain rfl := rx.i_bl) | (obtain rfl := rx.i_str))
  all_goals (first | (obtain rfl := ry.i_non) | (obtain rfl := ry.i_int) | (obtain rfl := ry.i_bl) | (obtain rfl := ry.i_str))
  all_goals rfl
theorem inF_ok {Ω : Gd} {H : Hp} {x : W} {v : V} (rx : RelW Ω H x v) (f : flatW x = true) : ∀ {ws : List W} {vs : List V}, RelWs Ω H ws vs → ws.all flatW = true → inV v vs = inF x ws
  | [], vs, r, _ => by rw [r.inv_nil]; rfl
  | w :: ws, vs, r, g => by
    obtain ⟨u, q, rfl, a, b⟩ := r.inv_cons
    rw [List.all_cons, Bool.and_eq_true] at g
    have ih := inF_ok rx f b g.2
    unfold inV inF at ih ⊢
    rw [List.any_cons, List.any_cons, ih, eqF_ok a rx g.1 f]
theorem DGet.fk {H : Hp} {a : Addr} {o : Obj} {kvs : List (Key × V)} {k : Key} (e : H a = some (.frz o (.dK kvs))) : DGet H a (kV k) (valV kvs k) := .inl ⟨kvs, k, .inr ⟨o, e⟩, rfl, rfl⟩
theorem RelKs.len {κ : Type} {Ω : Gd} {H : Hp} : ∀ {l : List (κ × W)} {s : List (κ × V)}, RelKs Ω H l s → l.length = s.length
  | [], s, h => by rw [show s = [] from h]; rfl
  | (k, w) :: r, _, ⟨v, q, e, a, h⟩ => by rw [e, List.length_cons, List.length_cons, RelKs.len h]
theorem RelKs.val {κ : Type} [DecidableEq κ] {Ω : Gd} {H : Hp} (k : κ) : ∀ {l : List (κ × W)} {s : List (κ × V)}, RelKs Ω H l s → (∃ w v, valW l k = some w ∧ valV s k = some v ∧ RelW Ω H w v) ∨ (valW l k = none ∧ valV s k = none)
  | [], s, h => by rw [show s = [] from h]; exact .inr ⟨rfl, rfl⟩
  | (k', w) :: r, _, ⟨v, q, e, a, h⟩ => by
    subst e
    by_cases ek : k' = k
    · subst ek
      exact .inl ⟨w, v, by simp [valW], by simp [valV], a⟩
    · have h1 : valW ((k', w) :: r) k = valW r k := by simp [valW, ek]
      have h2 : valV ((k', v) :: q) k = valV q k := by simp [valV, ek]
      rw [h1, h2]
      exact RelKs.val k h
theorem key_ok {Ω : Gd} {H : Hp} {x : W} {v : V} {k : Key} (rx : RelW Ω H x v) (e : keyW x = some k) : v = kV k := by
  cases x <;> first | (simp [keyW] at e; done) | skip
  · simp only [keyW, Option.some.injEq] at e; subst e; exact rx.i_int
  · simp only [keyW, Option.some.injEq] at e; subst e; exact rx.i_str
theorem kd_x {x : Str} (h : KdP (om X A) (A.ca x)) : ∃ es n, KDict X.K X.w (A.ca x) es n := by
  obtain ⟨es, n, h1, h2, h3⟩ := h
  exact ⟨es, n, h1, h2, h3⟩
theorem inW_ok {neg : Bool} (hu : X.A.units + 65 < cLine) {op : CmpOp} (h1 : neg = false → op = .In) (h2 : neg = true → op = .NotIn) : OpR X (compareOp op) (canOp (om X A) (inW neg)) := by
  intro pins s σ H v u vv uu Q I r1 r2 ⟨x, y, HW, q, rx, ry, rh, h, n⟩
  cases y <;> first | exact False.elim h | skip
  · rename_i z
    obtain rfl := ry.i_str
    cases x <;> first | exact False.elim h | skip
    rename_i a
    obtain rfl := rx.i_str
    have h : q (.bl (signIn a z != neg)) HW := h
    unfold signIn at h
    split at h
    · rename_i c ec
      have ea : a = ⟨#[c]⟩ := by
        cases a with
        | mk cps =>
          congr 1
          rw [← Array.toArray_toList (xs := cps)]
          exact congrArg List.toArray ec
      cases neg with
      | false => rw [h1 rfl]; exact op_in_sign pins s σ H _ _ vv uu Q I r1 r2 ⟨c, z, by rw [ea], rfl, n.here .bl rh (by simpa using h)⟩
      | true => rw [h2 rfl]; exact op_notIn_sign pins s σ H _ _ vv uu Q I r1 r2 ⟨c, z, by rw [ea], rfl, n.here .bl rh (by simpa using h)⟩
    · cases neg with
      | false => rw [h1 rfl]; exact op_in_str pins s σ H _ _ vv uu Q I r1 r2 ⟨a, z, rfl, rfl, n.here .bl rh (by simpa using h)⟩
      | true => rw [h2 rfl]; exact op_notin_str pins s σ H _ _ vv uu Q I r1 r2 ⟨a, z, rfl, rfl, n.here .bl rh (by simpa using h)⟩
  · rename_i ws
    obtain ⟨a, xs, rfl, sa, ra⟩ := ry.i_tup
    obtain ⟨h3, h4, h5⟩ := h
    have e := inF_ok rx h3 ra h4
    cases neg with
    | false => rw [h1 rfl]; exact op_in_seq pins s σ H v _ vv uu Q I r1 r2 ⟨a, xs, rfl, .inr sa, flat_ok rx h3, flats_ok ra h4, n.here .bl rh (by rw [e]; simpa using h5)⟩
    | true => rw [h2 rfl]; exact op_notIn_seq pins s σ H v _ vv uu Q I r1 r2 ⟨a, xs, rfl, .inr sa, flat_ok rx h3, flats_ok ra h4, n.here .bl rh (by rw [e]; simpa using h5)⟩
  · rename_i a
    obtain rfl := ry.i_ref
    have h : (match HW a with
      | some (.lst ws) => (flatW x = true ∧ ws.all flatW = true ∧ q (.bl (inF x ws != neg)) HW) ∨
          ∃ d ds, DpW HW x d ∧ DpW HW (.ref a) (.list ds) ∧ SeqAt.shaped d = true ∧ SeqAt.shaped (.list ds) = true ∧ q (.bl ((ds.any fun z => PyData.eqv z d) != neg)) HW
      | some (.dct kvs) => (match keyW x with
        | some k => q (.bl ((valW kvs k).isSome != neg)) HW
        | none => False)
      | some (.fdc kvs) => (match keyW x with
        | some k => q (.bl ((valW kvs k).isSome != neg)) HW
        | none => False)
      | _ => False) := h
    cases ea : HW a with
    | none => rw [ea] at h; exact h.elim
    | some o =>
      rw [ea] at h
      cases o <;> first | exact False.elim h | skip
      · rename_i ws
        obtain ⟨xs, ex, ra⟩ := rh _ _ ea
        rcases h with ⟨h3, h4, h5⟩ | ⟨d, ds, h3, h4, h5, h6, h7⟩
        · have e := inF_ok rx h3 ra h4
          cases neg with
          | false => rw [h1 rfl]; exact op_in_seq pins s σ H v _ vv uu Q I r1 r2 ⟨a, xs, rfl, .inl (SqL.of ex), flat_ok rx h3, flats_ok ra h4, n.here .bl rh (by rw [e]; simpa using h5)⟩
          | true => rw [h2 rfl]; exact op_notIn_seq pins s σ H v _ vv uu Q I r1 r2 ⟨a, xs, rfl, .inl (SqL.of ex), flat_ok rx h3, flats_ok ra h4, n.here .bl rh (by rw [e]; simpa using h5)⟩
        · cases neg with
          | false => rw [h1 rfl]; exact op_inD hu pins s σ H v _ vv uu Q I r1 r2 ⟨d, ds, h3.to rh rx, h4.to rh .ref, h5, h6, n.here .bl rh (by simpa using h7)⟩
          | true => rw [h2 rfl]; exact op_notInD hu pins s σ H v _ vv uu Q I r1 r2 ⟨d, ds, h3.to rh rx, h4.to rh .ref, h5, h6, n.here .bl rh (by simpa using h7)⟩
      · rename_i kvs
        have h : (match keyW x with
          | some k => q (.bl ((valW kvs k).isSome != neg)) HW
          | none => False) := h
        cases ek : keyW x with
        | none => rw [ek] at h; exact h.elim
        | some k =>
          rw [ek] at h
          have h : q (.bl ((valW kvs k).isSome != neg)) HW := h
          obtain ⟨xs, ex, ra⟩ := rh _ _ ea
          obtain rfl := key_ok rx ek
          obtain rfl : uu = Value.ref a := r2
          have e : (valV xs k).isSome = (valW kvs k).isSome := by
            rcases ra.val k with ⟨w, z, e1, e2, _⟩ | ⟨e1, e2⟩ <;> rw [e1, e2] <;> rfl
          cases neg with
          | false => rw [h1 rfl]; exact d_in (by omega) I (DGet.k ex) r1 fun s3 I3 => ⟨.bl _, H, I3, rfl, n.here .bl rh (by rw [e]; simpa using h)⟩
          | true => rw [h2 rfl]; exact d_notIn (by omega) I (DGet.k ex) r1 fun s3 I3 => ⟨.bl _, H, I3, rfl, n.here .bl rh (by rw [e]; simpa using h)⟩
      · rename_i kvs
        have h : (match keyW x with
          | some k => q (.bl ((valW kvs k).isSome != neg)) HW
          | none => False) := h
        cases ek : keyW x with
        | none => rw [ek] at h; exact h.elim
        | some k =>
          rw [ek] at h
          have h : q (.bl ((valW kvs k).isSome != neg)) HW := h
          obtain ⟨o0, xs, ex, ra⟩ := rh _ _ ea
          obtain rfl := key_ok rx ek
          obtain rfl : uu = Value.ref a := r2
          have e : (valV xs k).isSome = (valW kvs k).isSome := by
            rcases ra.val k with ⟨w, z, e1, e2, _⟩ | ⟨e1, e2⟩ <;> rw [e1, e2] <;> rfl
          cases neg with
          | false => rw [h1 rfl]; exact d_in (by omega) I (DGet.fk ex) r1 fun s3 I3 => ⟨.bl _, H, I3, rfl, n.here .bl rh (by rw [e]; simpa using h)⟩
          | true => rw [h2 rfl]; exact d_notIn (by omega) I (DGet.fk ex) r1 fun s3 I3 => ⟨.bl _, H, I3, rfl, n.here .bl rh (by rw [e]; simpa using h)⟩
  · rename_i tx tb
    cases x <;> first | (exact False.elim h; done) | skip
    rename_i k
    obtain ⟨rfl, kp, _⟩ := ry.i_kdc
    obtain rfl := rx.i_str
    obtain ⟨es, m, D⟩ := kd_x kp
    have e : ∃ r, PySem.W.nsIn X.K (A.ca tx) k = some r ∧ r.isSome = (tb.lookup k).isSome := by
      rcases ry.kd (k := k) with ⟨w, u, z, e1, e2, _⟩ | ⟨e1, e2⟩
      · exact ⟨_, e2, by rw [e1]; rfl⟩
      · exact ⟨_, e2, by rw [e1]; rfl⟩
    obtain ⟨r, e1, e2⟩ := e
    have h : q (.bl ((tb.lookup k).isSome != neg)) HW := h
    cases neg with
    | false => rw [h1 rfl]; exact op_in_kd D pins s σ H _ _ vv uu Q I r1 r2 ⟨k, r, rfl, rfl, e1, n.here .bl rh (by rw [e2]; simpa using h)⟩
    | true => rw [h2 rfl]; exact op_notIn_kd D pins s σ H _ _ vv uu Q I r1 r2 ⟨k, r, rfl, rfl, e1, n.here .bl rh (by rw [e2]; simpa using h)⟩
theorem op_cmp (hu : X.A.units + 65 < cLine) {op : CmpOp} : OpR X (compareOp op) (canOp (om X A) (cmpW op)) := by
  intro pins s σ H v u vv uu Q I r1 r2 ⟨x, y, HW, q, rx, ry, rh, h, n⟩
  cases op
  · exact eqW_ok (neg := false) (by omega) (fun _ => rfl) (fun z => by cases z) pins s σ H v u vv uu Q I r1 r2 ⟨x, y, HW, q, rx, ry, rh, h, n⟩
  · exact eqW_ok (neg := true) (by omega) (fun z => by cases z) (fun _ => rfl) pins s σ H v u vv uu Q I r1 r2 ⟨x, y, HW, q, rx, ry, rh, h, n⟩
  all_goals first
    | (cases x <;> cases y <;> first | exact False.elim h | skip
       obtain rfl := rx.i_int; obtain rfl := ry.i_int
       first
         | exact op_lt pins s σ H _ _ _ _ Q I r1 r2 ⟨_, _, rfl, rfl, n.here .bl rh h⟩
         | exact op_le pins s σ H _ _ _ _ Q I r1 r2 ⟨_, _, rfl, rfl, n.here .bl rh h⟩
         | exact op_gt pins s σ H _ _ _ _ Q I r1 r2 ⟨_, _, rfl, rfl, n.here .bl rh h⟩
         | exact op_ge pins s σ H _ _ _ _ Q I r1 r2 ⟨_, _, rfl, rfl, n.here .bl rh h⟩)
    | skip
  · exact isW_ok (neg := false) (fun _ => rfl) (fun z => by cases z) pins s σ H v u vv uu Q I r1 r2 ⟨x, y, HW, q, rx, ry, rh, h, n⟩
  · exact isW_ok (neg := true) (fun z => by cases z) (fun _ => rfl) pins s σ H v u vv uu Q I r1 r2 ⟨x, y, HW, q, rx, ry, rh, h, n⟩
  · exact inW_ok (neg := false) hu (fun _ => rfl) (fun z => by cases z) pins s σ H v u vv uu Q I r1 r2 ⟨x, y, HW, q, rx, ry, rh, h, n⟩
  · exact inW_ok (neg := true) hu (fun z => by cases z) (fun _ => rfl) pins s σ H v u vv uu Q I r1 r2 ⟨x, y, HW, q, rx, ry, rh, h, n⟩
end
end Uw

/-! numbers of many figures: str(int) and int(text) up to 4300 figures (the interpreter's limit as it stands) -/
namespace Uw
open PySem PySem.Spec PyProof.Rows L2
/-- the fragment shows that no other limit of figures was set -/
def DigK (K : PySem.W.Frag) : Prop := PySem.W.nsIn K cStatics "sys.int_max_str_digits" = some none
theorem ns_none {K : PySem.W.Frag} {h : Heap} {a : Addr} {m : Str → Option Value} {n : Str} (X : K.In h) (G : h.Ns a m) (e : PySem.W.nsIn K a n = some none) : m n = none := by
  obtain ⟨o, es, ep, ho, hd, _, hf⟩ := G
  unfold PySem.W.nsIn at e
  split at e
  · rename_i c d es' n' sl q
    have := X _ _ q
    rw [ho] at this
    cases this
    cases hd
    split at e
    · cases e
    · rename_i he
      rw [← hf]
      unfold nsFind findBy
      rw [← Array.find?_toList, he]
      rfl
  · cases e
theorem noDigits {X : Cx} {pins : List (Addr × Obj)} {σ : L2.St} {H : Hp} {s : Shared} (I : Inv X pins σ H s) (d : DigK X.K) : s.heap.NoDigits :=
  let ⟨mc, h, _⟩ := I.nolimit
  ⟨mc, h, ns_none I.kIn h d⟩
theorem log_dig {n : Nat} (h : n.log2 < 14284) : n < 10 ^ 4300 := Nat.lt_of_lt_of_le (lt_of_log2 h) (by decide +kernel)
section
variable {X : Cx}
theorem call_str_dig (hc : X.calm = true) (d : DigK X.K) : CallR X (.type "str") (fun xs H Q => ∃ i, xs = [.int i] ∧ i.natAbs.log2 < 14284 ∧ Q (.str (toString i)) H) := by
  intro pins s σ H xs us Q I r h
  obtain ⟨i, rfl, hz, q⟩ := h
  obtain ⟨u, rfl, t, rfl⟩ := vals1 r
  exact PyProof.Rows.str_of_int_or (I.ok.hd hc) (noDigits I d) (fun _ => ⟨.str _, H, I.tok _, ⟨_, rfl⟩, q⟩) fun h => absurd (log_dig hz) (Nat.not_lt.mpr h)
open PySem.Calls PySem.NumText in
theorem wp_text2 {M : Model} {A : Around} {E : Value → Shared → Prop} {s : Shared} {Q : Value → Shared → Prop} {v : Value} {text : List Nat} {n : Int} (hd : s.heap.NoDigits)
    (hr : (int_private% "readNumeral") (if (text.takeWhile (· != 0)).length ≤ 640 then 0 else 4300) 10 (text.takeWhile (· != 0)) = (int_private% "Numeral.value") n)
    (ha : ((text.takeWhile (· != 0)).length == text.length) = true) (h : Q (.int n s.toks) { s with toks := s.toks + 1 }) :
    wpAny M A ((int_private% "intFromText") v text 10) Q E s := by
  by_cases hs : (text.takeWhile (· != 0)).length ≤ 640
  · rw [if_pos hs] at hr
    exact PySem.W.KIN.wp_text hs hr ha h
  · rw [if_neg hs] at hr
    obtain ⟨mc, hns, hn⟩ := hd
    obtain ⟨hp, g, d, tk, os⟩ := s
    have hm : ∀ Q' : Nat → Shared → Prop, Q' 4300 ⟨hp, g, d, tk, os⟩ → wpAny M A Builtin.intMaxStrDigits Q' E ⟨hp, g, d, tk, os⟩ := fun Q' q => by
      unfold Builtin.intMaxStrDigits
      refine wpAny_bind (wpAny_nsGet hns ?_)
      rw [hn]
      exact wpAny_pure q
    repeat (any_goals (first
      | assumption
      | (with_reducible refine wpAny_ite_false (decide_eq_false hs) ?_)
      | (with_reducible refine wpAny_ite_true (decide_eq_true ha) ?_)
      | (refine hm _ ?_)
      | wp_step))
    all_goals (try rw [hr])
    all_goals (try dsimp only)
    repeat (any_goals (first
      | assumption
      | (with_reducible refine wpAny_ite_true (decide_eq_true ha) ?_)
      | wp_step))
structure Hid2 (p : Prop) : Prop where
  out : p
theorem meets_text2 {x : PySem.Str} {u : Tok} {n : Int} (hl : x.length ≤ sizeLine) (hn : PySem.intText? x = some n) :
    Meets (Builtin.«int.__new__» ⟨[.type "int", .str x u], []⟩) (fun A R s => s.heap.NoDigits ∧ R (.ok (.ret (.int n s.toks))) { s with toks := s.toks + 1 }) :=
  .of_wp fun prog w A R s h => by
    obtain ⟨hd, h⟩ := h
    have f1 := PySem.F.conv_sub_int
    have f2 := PySem.F.madeHere_int
    have f3 := PySem.W.KIN.str_int
    have f4 := PySem.W.KIN.str_idx
    have f5 := PySem.W.KIN.str_trunc
    have f6 : typeOf (.str x u) = pure (.type "str") := rfl
    have hr : (int_private% "readNumeral") (if (numSeenOf x).length ≤ 640 then 0 else 4300) 10 (numSeenOf x) = (int_private% "Numeral.value") n ∧ ((numSeenOf x).length == (numTextOf x).length) = true := by
      rcases readAny x hl with ⟨m, h1, h2, h3⟩ | ⟨h1, _⟩
      · rw [hn] at h1
        injection h1 with h1
        subst h1
        exact ⟨h3, h2⟩
      · rw [hn] at h1
        cases h1
    have hk := Hid2.mk (And.intro hd hr)
    clear hr hl hn hd
    obtain ⟨hp, g, d, tk, os⟩ := s
    repeat (any_goals (first
      | assumption
      | ((with_reducible show wpAny _ _ ((int_private% "intFromText") _ _ _) _ _ _); refine wp_text2 hk.out.1 hk.out.2.1 hk.out.2.2 ?_)
      | wp_step))
    all_goals exact ⟨_, rfl, h⟩
theorem call_int_dig (d : DigK X.K) : CallR X (.type "int") (fun xs H Q => ∃ a n, xs = [.str a] ∧ PySem.intText? a = some n ∧ a.length ≤ sizeLine ∧ Q (.int n) H) := by
  intro pins s σ H xs us Q I rs h
  obtain ⟨a, n, rfl, hn, hl, h⟩ := h
  cases rs with
  | cons r1 rs =>
    cases rs
    obtain ⟨t, rfl⟩ := r1
    exact PySem.call_int_1 (meets_text2 hl hn) ⟨noDigits I d, typeIs_int _ _ _, ⟨.int n, H, I.tok _, ⟨_, rfl⟩, h⟩⟩
end
end Uw

namespace Uw
open PySem PySem.Spec PyProof.Rows L2

/-! ### truth -/
def truW (H : HpW) : W → Option Bool
  | .non => some false
  | .bl b => some b
  | .int i => some (i != 0)
  | .tup ws => some (!ws.isEmpty)
  | .ref a => (match H a with
    | some (.lst ws) => some (!ws.isEmpty)
    | some (.dct kvs) => some (!kvs.isEmpty)
    | _ => none)
  | _ => none
/-- what a dict holds -/
def getW (kvs : List (Key × W)) (y : W) (H : HpW) (Q : QW) : Prop := match keyW y with
  | some k => (match valW kvs k with
    | some w => Q w H
    | none => False)
  | none => False
theorem RelWs.isEmpty {Ω : Gd} {H : Hp} {ws : List W} {vs : List V} (r : RelWs Ω H ws vs) : ws.isEmpty = vs.isEmpty := by
  cases ws with
  | nil => rw [r.inv_nil]; rfl
  | cons w ws => obtain ⟨v, q, rfl, _, _⟩ := r.inv_cons; rfl
theorem RelKs.isEmpty {κ : Type} {Ω : Gd} {H : Hp} {ws : List (κ × W)} {vs : List (κ × V)} (r : RelKs Ω H ws vs) : ws.isEmpty = vs.isEmpty := by
  cases ws with
  | nil => rw [show vs = [] from r]; rfl
  | cons w ws => obtain ⟨v, q, rfl, _, _⟩ := r; rfl
theorem tru_okW {Ω : Gd} {HW : HpW} {H : Hp} {x : W} {v : V} {b : Bool} (rx : RelW Ω H x v) (rh : RelH Ω HW H) (e : truW HW x = some b) : TruV Ω.K v H b := by
  cases x <;> first | (simp [truW] at e; done) | skip
  · rw [rx.i_non]; simp only [truW, Option.some.injEq] at e; exact e.symm
  · rw [rx.i_bl]; simp only [truW, Option.some.injEq] at e; exact e.symm
  · rw [rx.i_int]; simp only [truW, Option.some.injEq] at e; exact e.symm
  · obtain ⟨a, xs, rfl, s, r⟩ := rx.i_tup
    simp only [truW, Option.some.injEq] at e
    exact .inr (.inl ⟨xs, s, by rw [← e, r.isEmpty]⟩)
  · rename_i a
    rw [rx.i_ref]
    have e : (match HW a with
      | some (.lst ws) => some (!ws.isEmpty)
      | some (.dct kvs) => some (!kvs.isEmpty)
      | _ => none) = some b := e
    cases ea : HW a with
    | none => rw [ea] at e; cases e
    | some o =>
      rw [ea] at e
      cases o with
      | lst ws =>
        obtain ⟨xs, ex, r⟩ := rh _ _ ea
        exact .inl ⟨xs, SqL.of ex, by rw [← Option.some.inj e, r.isEmpty]⟩
      | dct ws =>
        obtain ⟨xs, ex, r⟩ := rh _ _ ea
        exact .inr (.inr ⟨xs, ex, by rw [← Option.some.inj e, r.isEmpty]⟩)
      | fdc _ => cases e
      | ins _ _ => cases e
      | xd _ => cases e

/-! ### subscripts -/
def idxW : W → W → HpW → QW → Prop
  | .tup ws, .int i, H, Q => (match atI ws i with
    | some w => Q w H
    | none => False)
  | .str z, .int i, H, Q => z.length ≤ sizeLine ∧ (match atI z.cps.toList i with
    | some c => Q (.str ⟨#[c]⟩) H
    | none => False)
  | .ref a, y, H, Q => (match H a with
    | some (.lst ws) => (match y with
      | .int i => (match atI ws i with
        | some w => Q w H
        | none => False)
      | _ => False)
    | some (.dct kvs) => getW kvs y H Q
    | some (.fdc kvs) => getW kvs y H Q
    | _ => False)
  | .scr ns, .int i, H, Q => (match atI ns i with
    | some n => Q (.int n) H
    | none => False)
  | .kdc _ tb, .str k, H, Q => (match tb.lookup k with
    | some w => Q w H
    | none => False)
  | _, _, _, _ => False
theorem RelWs.atI {Ω : Gd} {H : Hp} {ws : List W} {vs : List V} (r : RelWs Ω H ws vs) {i : Int} {w : W} (e : L2.atI ws i = some w) : ∃ v, L2.atI vs i = some v ∧ RelW Ω H w v := by
  unfold L2.atI at e ⊢
  rw [← r.length]
  cases h : ixN ws.length i with
  | none => rw [h] at e; cases e
  | some j =>
    rw [h] at e
    obtain ⟨v, e1, e2⟩ := r.get (show ws[j]? = some w from e)
    exact ⟨v, e1, e2⟩
theorem atI_map {α β : Type} (f : α → β) (xs : List α) (i : Int) : atI (xs.map f) i = (atI xs i).map f := by
  unfold atI
  rw [List.length_map]
  cases ixN xs.length i with
  | none => rfl
  | some j => simp
section
variable {X : Cx} {A : Ad}
/-- d[k], there -/
theorem ix_dict (hu : X.A.units + 1 < cLine) : IxR X (fun x y H Q => ∃ (a : Addr) (v : V), x = .ref a ∧ DGet H a y (some v) ∧ Q v H) := by
  intro value slice pins s σ H x y v u Q I rx ry h hs
  obtain ⟨a, r, rfl, g, q⟩ := h
  obtain rfl : v = Value.ref a := rx
  exact tail_any (dict_typeIs I g) PySem.F.slot_dict_getitem.lookup (d_getItem hu I g ry fun w' s' I' r' => ⟨r, H, I', r', q⟩) hs
theorem ix_any (hu : X.A.units + 1 < cLine) : IxR X (canOp (om X A) idxW) := by
  intro value slice pins s σ H v u vv uu Q I r1 r2 ⟨x, y, HW, q, rx, ry, rh, h, n⟩ hs
  cases x <;> first | (exact False.elim h; done) | skip
  · rename_i z
    cases y <;> first | (exact False.elim h; done) | skip
    rename_i i
    obtain rfl := rx.i_str
    obtain rfl := ry.i_int
    obtain ⟨h1, h2⟩ := h
    cases e : atI z.cps.toList i with
    | none => rw [e] at h2; exact h2.elim
    | some c =>
      rw [e] at h2
      exact ix_str value slice pins s σ H _ _ vv uu Q I r1 r2 ⟨z, i, c, rfl, rfl, h1, e, n.here .str rh h2⟩ hs
  · rename_i ws
    cases y <;> first | (exact False.elim h; done) | skip
    rename_i i
    obtain ⟨a, xs, rfl, sa, ra⟩ := rx.i_tup
    obtain rfl := ry.i_int
    have h : (match atI ws i with
      | some w => q w HW
      | none => False) := h
    cases e : atI ws i with
    | none => rw [e] at h; exact h.elim
    | some w =>
      rw [e] at h
      obtain ⟨z, e1, e2⟩ := ra.atI e
      exact ix_tup value slice pins s σ H _ _ vv uu Q I r1 r2 ⟨a, xs, i, z, rfl, rfl, sa, e1, n.here e2 rh h⟩ hs
  · rename_i a
    obtain rfl := rx.i_ref
    replace h : (match HW a with
      | some (.lst ws) => (match y with
        | .int i => (match atI ws i with
          | some w => q w HW
          | none => False)
        | _ => False)
      | some (.dct kvs) => getW kvs y HW q
      | some (.fdc kvs) => getW kvs y HW q
      | _ => False) := by cases y <;> exact h
    cases ea : HW a with
    | none => rw [ea] at h; exact h.elim
    | some o =>
      rw [ea] at h
      cases o <;> first | (exact False.elim h; done) | skip
      · rename_i ws
        cases y with
        | int i =>
          obtain rfl := ry.i_int
          obtain ⟨xs, ex, ra⟩ := rh _ _ ea
          replace h : (match atI ws i with
            | some w => q w HW
            | none => False) := h
          cases e : atI ws i with
          | none => rw [e] at h; exact h.elim
          | some w =>
            rw [e] at h
            obtain ⟨z, e1, e2⟩ := ra.atI e
            exact ix_list value slice pins s σ H _ _ vv uu Q I r1 r2 ⟨a, xs, i, z, rfl, rfl, SqL.of ex, e1, n.here e2 rh h⟩ hs
        | _ => exact False.elim h
      · rename_i kvs
        replace h : getW kvs y HW q := h
        unfold getW at h
        cases ek : keyW y with
        | none => rw [ek] at h; exact h.elim
        | some k =>
          rw [ek] at h
          dsimp only at h
          obtain ⟨xs, ex, ra⟩ := rh _ _ ea
          obtain rfl := key_ok ry ek
          rcases ra.val k with ⟨w, z, e1, e2, e3⟩ | ⟨e1, e2⟩
          · rw [e1] at h
            exact ix_dict hu value slice pins s σ H _ _ vv uu Q I r1 r2 ⟨a, z, rfl, by rw [← e2]; exact DGet.k ex, n.here e3 rh h⟩ hs
          · rw [e1] at h; exact h.elim
      · rename_i kvs
        replace h : getW kvs y HW q := h
        unfold getW at h
        cases ek : keyW y with
        | none => rw [ek] at h; exact h.elim
        | some k =>
          rw [ek] at h
          dsimp only at h
          obtain ⟨o0, xs, ex, ra⟩ := rh _ _ ea
          obtain rfl := key_ok ry ek
          rcases ra.val k with ⟨w, z, e1, e2, e3⟩ | ⟨e1, e2⟩
          · rw [e1] at h
            exact ix_dict hu value slice pins s σ H _ _ vv uu Q I r1 r2 ⟨a, z, rfl, by rw [← e2]; exact DGet.fk ex, n.here e3 rh h⟩ hs
          · rw [e1] at h; exact h.elim
  · rename_i ns
    cases y <;> first | (exact False.elim h; done) | skip
    rename_i i
    obtain ⟨a, rfl, sf⟩ := rx.i_scr
    obtain rfl := ry.i_int
    replace h : (match atI ns i with
      | some w => q (.int w) HW
      | none => False) := h
    cases e : atI ns i with
    | none => rw [e] at h; exact h.elim
    | some w =>
      rw [e] at h
      exact ix_list value slice pins s σ H _ _ vv uu Q I r1 r2 ⟨a, ns.map V.int, i, .int w, rfl, rfl, sf.sq, by rw [atI_map, e]; rfl, n.here .int rh h⟩ hs
  · rename_i tx tb
    cases y <;> first | (exact False.elim h; done) | skip
    rename_i k
    obtain ⟨rfl, kp, _⟩ := rx.i_kdc
    obtain rfl := ry.i_str
    obtain ⟨es, m, D⟩ := kd_x kp
    replace h : (match tb.lookup k with
      | some w => q w HW
      | none => False) := h
    rcases rx.kd (k := k) with ⟨w, u, z, e1, e2, e3, e4⟩ | ⟨e1, e2⟩
    · rw [e1] at h
      exact ix_kdict value slice pins s σ H _ _ vv uu Q I r1 r2 ⟨_, k, z, rfl, rfl, ⟨es, m, u, D.at_, D.lit, e2, e3⟩, n.here e4 rh h⟩ hs
    · rw [e1] at h; exact h.elim
end

/-! ### built-in functions -/
inductive Blt where
  | len | int | abs | all | any | list | tuple | str | max | min | sorted | dict | sum
def lenW (H : HpW) : W → Option Nat
  | .tup ws => some ws.length
  | .ref a => (match H a with
    | some (.lst ws) => some ws.length
    | some (.dct kvs) => some kvs.length
    | some (.fdc kvs) => some kvs.length
    | _ => none)
  | .scr ns => some ns.length
  | _ => none
def bools : List W → Option (List Bool)
  | [] => some []
  | .bl b :: r => (bools r).map (b :: ·)
  | _ :: _ => none
/-- texts -/
def strsW : List W → Option (List Str)
  | [] => some []
  | .str x :: r => (strsW r).map (x :: ·)
  | _ :: _ => none
/-- ints -/
def intsW : List W → Option (List Int)
  | [] => some []
  | .int x :: r => (intsW r).map (x :: ·)
  | _ :: _ => none
def kW : Key → W
  | .inl i => .int i
  | .inr x => .str x
/-- the sorted texts, as a new list -/
def srtW (xs : List Str) (H : HpW) (Q : QW) : Prop := xs.length < 64 ∧ ∀ ys p, ys.Perm xs → sortedS ys = true → H p = none → Q (.ref p) (updW H p (.lst (ys.map W.str)))
def keyS : List (Key × W) → Option (List Str)
  | [] => some []
  | (.inr x, _) :: r => (keyS r).map (x :: ·)
  | _ :: _ => none
def srtO (o : Option (List Str)) (H : HpW) (Q : QW) : Prop := match o with
  | some xs => srtW xs H Q
  | none => False
def bltW : Blt → List W → HpW → QW → Prop
  | .len, [.str z], H, Q => z.length ≤ sizeLine ∧ Q (.int z.length) H
  | .len, [x], H, Q => (match lenW H x with
    | some n => Q (.int n) H
    | none => False)
  | .int, [.int i], H, Q => Q (.int i) H
  | .int, [.bl b], H, Q => Q (.int (if b then 1 else 0)) H
  | .abs, [.int i], H, Q => Q (.int (if i < 0 then -i else i)) H
  | .max, [.int i, .int j], H, Q => Q (.int (if j > i then j else i)) H
  | .min, [.int i, .int j], H, Q => Q (.int (if j < i then j else i)) H
  | .str, [.int i], H, Q => i.natAbs.log2 < 14284 ∧ Q (.str (toString i)) H
  | .int, [.str z], H, Q => (match PySem.intText? z with
    | some n => z.length ≤ sizeLine ∧ Q (.int n) H
    | none => False)
  | .all, [.ref a], H, Q => (match H a with
    | some (.lst ws) => (match bools ws with
      | some bs => Q (.bl (bs.all id)) H
      | none => False)
    | _ => False)
  | .any, [.ref a], H, Q => (match H a with
    | some (.lst ws) => (match bools ws with
      | some bs => Q (.bl (bs.any id)) H
      | none => False)
    | _ => False)
  | .list, [.tup ws], H, Q => ∀ p, H p = none → Q (.ref p) (updW H p (.lst ws))
  | .list, [.ref a], H, Q => (match H a with
    | some (.lst ws) => ∀ p, H p = none → Q (.ref p) (updW H p (.lst ws))
    | some (.dct kvs) => ∀ p, H p = none → Q (.ref p) (updW H p (.lst (kvs.map fun kv => kW kv.1)))
    | some (.fdc kvs) => ∀ p, H p = none → Q (.ref p) (updW H p (.lst (kvs.map fun kv => kW kv.1)))
    | _ => False)
  | .list, [.scr ns], H, Q => ∀ p, H p = none → Q (.ref p) (updW H p (.lst (ns.map W.int)))
  | .tuple, [.tup ws], H, Q => Q (.tup ws) H
  | .tuple, [.ref a], H, Q => (match H a with
    | some (.lst ws) => Q (.tup ws) H
    | _ => False)
  | .str, [.str z], H, Q => Q (.str z) H
  | .sorted, [.ref a], H, Q => (match H a with
    | some (.lst ws) => srtO (strsW ws) H Q
    | some (.dct kvs) => srtO (keyS kvs) H Q
    | some (.fdc kvs) => srtO (keyS kvs) H Q
    | _ => False)
  | .dict, [.ref a], H, Q => (match H a with
    | some (.dct kvs) => ∀ p, H p = none → Q (.ref p) (updW H p (.dct kvs))
    | some (.fdc kvs) => ∀ p, H p = none → Q (.ref p) (updW H p (.dct kvs))
    | _ => False)
  | .sum, [.ref a], H, Q => (match H a with
    | some (.lst ws) => (match intsW ws with
      | some ns => Q (.int ns.sum) H
      | none => False)
    | _ => False)
  | _, _, _, _ => False
def Blt.val : Blt → Value
  | .len => .builtin "len"
  | .int => .type "int"
  | .abs => .builtin "abs"
  | .all => .builtin "all"
  | .any => .builtin "any"
  | .list => .type "list"
  | .tuple => .type "tuple"
  | .str => .type "str"
  | .max => .builtin "max"
  | .min => .builtin "min"
  | .sorted => .builtin "sorted"
  | .dict => .type "dict"
  | .sum => .builtin "sum"
def canC (Ω : Gd) (r : List W → HpW → QW → Prop) : List V → Hp → VK → Prop := fun vs H Q => ∃ ws HW q, RelWs Ω H ws vs ∧ RelH Ω HW H ∧ r ws HW q ∧ Nrm Ω H q Q
theorem RelWs.bools {Ω : Gd} {H : Hp} : ∀ {ws : List W} {vs : List V} {bs : List Bool}, RelWs Ω H ws vs → Uw.bools ws = some bs → vs = bs.map V.bl
  | [], vs, bs, r, e => by
    rw [r.inv_nil]
    simp only [Uw.bools, Option.some.injEq] at e
    rw [← e]; rfl
  | w :: ws, vs, bs, r, e => by
    obtain ⟨v, q, rfl, a, b⟩ := r.inv_cons
    cases w <;> first | (simp [Uw.bools] at e; done) | skip
    rename_i c
    obtain rfl := a.i_bl
    cases h : Uw.bools ws with
    | none => simp [Uw.bools, h] at e
    | some cs =>
      simp [Uw.bools, h] at e
      rw [← e, RelWs.bools b h]; rfl
theorem RelWs.strs {Ω : Gd} {H : Hp} : ∀ {ws : List W} {vs : List V} {xs : List Str}, RelWs Ω H ws vs → strsW ws = some xs → vs = xs.map V.str
  | [], vs, xs, r, e => by
    rw [r.inv_nil]
    simp only [strsW, Option.some.injEq] at e
    rw [← e]; rfl
  | w :: ws, vs, xs, r, e => by
    obtain ⟨v, q, rfl, a, b⟩ := r.inv_cons
    cases w <;> first | (simp [strsW] at e; done) | skip
    obtain rfl := a.i_str
    cases h : strsW ws with
    | none => simp [strsW, h] at e
    | some cs =>
      simp [strsW, h] at e
      rw [← e, RelWs.strs b h]; rfl
theorem RelWs.ints {Ω : Gd} {H : Hp} : ∀ {ws : List W} {vs : List V} {xs : List Int}, RelWs Ω H ws vs → intsW ws = some xs → vs = xs.map V.int
  | [], vs, xs, r, e => by
    rw [r.inv_nil]
    simp only [intsW, Option.some.injEq] at e
    rw [← e]; rfl
  | w :: ws, vs, xs, r, e => by
    obtain ⟨v, q, rfl, a, b⟩ := r.inv_cons
    cases w <;> first | (simp [intsW] at e; done) | skip
    obtain rfl := a.i_int
    cases h : intsW ws with
    | none => simp [intsW, h] at e
    | some cs =>
      simp [intsW, h] at e
      rw [← e, RelWs.ints b h]; rfl
theorem rel_strs {Ω : Gd} {H : Hp} : ∀ ns : List Str, RelWs Ω H (ns.map W.str) (ns.map V.str)
  | [] => .nil
  | n :: ns => .cons .str (rel_strs ns)
theorem RelKs.keys {Ω : Gd} {H : Hp} : ∀ {l : List (Key × W)} {s : List (Key × V)}, RelKs Ω H l s → l.map (·.1) = s.map (·.1) ∧ RelWs Ω H (l.map fun kv => kW kv.1) (s.map fun kv => kV kv.1)
  | [], s, h => by rw [show s = [] from h]; exact ⟨rfl, .nil⟩
  | (k, w) :: l, s, h => by
    obtain ⟨v, r, rfl, a, b⟩ := h
    obtain ⟨h1, h2⟩ := RelKs.keys b
    refine ⟨by rw [List.map_cons, List.map_cons, h1], .cons ?_ h2⟩
    cases k
    · exact .int
    · exact .str
theorem keyS_ok : ∀ {l : List (Key × W)} {xs : List Str}, keyS l = some xs → l.map (·.1) = xs.map Sum.inr
  | [], xs, h => by simp only [keyS, Option.some.injEq] at h; rw [← h]; rfl
  | (.inl i, w) :: l, xs, h => by cases h
  | (.inr x, w) :: l, xs, h => by
    cases e : keyS l with
    | none => simp [keyS, e] at h
    | some ys =>
      simp [keyS, e] at h
      rw [← h, List.map_cons, keyS_ok e]; rfl
theorem rel_ints {Ω : Gd} {H : Hp} : ∀ ns : List Int, RelWs Ω H (ns.map W.int) (ns.map V.int)
  | [] => .nil
  | n :: ns => .cons .int (rel_ints ns)
section
variable {X : Cx} {A : Ad}
theorem cr_blt (hc : X.calm = true) (hd : DigK X.K) (b : Blt) : CallR X b.val (canC (om X A) (bltW b)) := by
  intro pins s σ H vs us Q I r ⟨ws, HW, q, rw_, rh, h, n⟩
  -- by the number of arguments
  cases ws with
  | nil => cases b <;> exact False.elim h
  | cons x rest =>
    obtain ⟨v, vr, rfl, rx, rr⟩ := rw_.inv_cons
    cases rest with
    | cons y rest2 =>
      obtain ⟨v2, vr2, rfl, ry, rr2⟩ := rr.inv_cons
      cases rest2 with
      | cons z rest3 =>
        cases b <;> first | exact False.elim h | (cases x <;> first | exact False.elim h | (cases y <;> exact False.elim h))
      | nil =>
        obtain rfl := rr2.inv_nil
        cases b <;> first | (exact False.elim h; done) | (cases x <;> first | (exact False.elim h; done) | (cases y <;> first | (exact False.elim h; done) | skip))
        · obtain rfl := rx.i_int
          obtain rfl := ry.i_int
          exact call_max2 hc pins s σ H _ us Q I r ⟨_, _, rfl, n.here .int rh h⟩
        · obtain rfl := rx.i_int
          obtain rfl := ry.i_int
          exact call_min2 hc pins s σ H _ us Q I r ⟨_, _, rfl, n.here .int rh h⟩
    | nil =>
      obtain rfl := rr.inv_nil
      cases b
      · -- len
        cases x <;> first | (exact False.elim h; done) | skip
        · obtain rfl := rx.i_str
          exact call_len pins s σ H _ us Q I r ⟨_, _, rfl, ⟨h.1, rfl⟩, n.here .int rh h.2⟩
        · obtain ⟨a, xs, rfl, sa, ra⟩ := rx.i_tup
          refine call_len pins s σ H _ us Q I r ⟨_, _, rfl, .inr ⟨xs, sa, rfl⟩, n.here .int rh ?_⟩
          rw [← ra.length]; exact h
        · rename_i a
          obtain rfl := rx.i_ref
          have h : (match (match HW a with
            | some (.lst ws) => some ws.length
            | some (.dct kvs) => some kvs.length
            | some (.fdc kvs) => some kvs.length
            | _ => none) with
            | some n => q (.int n) HW
            | none => False) := h
          cases ea : HW a with
          | none => rw [ea] at h; exact h.elim
          | some o =>
            rw [ea] at h
            cases o <;> first | (exact False.elim h; done) | skip
            · obtain ⟨xs, ex, ra⟩ := rh _ _ ea
              refine call_len pins s σ H _ us Q I r ⟨_, _, rfl, .inl ⟨xs, SqL.of ex, rfl⟩, n.here .int rh ?_⟩
              rw [← ra.length]; exact h
            · obtain ⟨xs, ex, ra⟩ := rh _ _ ea
              rw [Vals.ref1 r]
              refine d_len I (.inl ex) fun t s' I' => ⟨.int xs.length, H, I', ⟨_, rfl⟩, n.here .int rh ?_⟩
              rw [← ra.len]; exact h
            · obtain ⟨o0, xs, ex, ra⟩ := rh _ _ ea
              rw [Vals.ref1 r]
              refine d_len I (.inr ⟨o0, ex⟩) fun t s' I' => ⟨.int xs.length, H, I', ⟨_, rfl⟩, n.here .int rh ?_⟩
              rw [← ra.len]; exact h
        · rename_i ns
          obtain ⟨a, rfl, sf⟩ := rx.i_scr
          refine call_len pins s σ H _ us Q I r ⟨_, _, rfl, .inl ⟨ns.map V.int, sf.sq, rfl⟩, n.here .int rh ?_⟩
          rw [List.length_map]; exact h
      · -- int
        cases x <;> first | (exact False.elim h; done) | skip
        · obtain rfl := rx.i_bl
          exact call_int1 pins s σ H _ us Q I r (.inr ⟨_, rfl, n.here .int rh h⟩)
        · obtain rfl := rx.i_int
          exact call_int1 pins s σ H _ us Q I r (.inl ⟨_, rfl, n.here .int rh h⟩)
        · rename_i z
          obtain rfl := rx.i_str
          replace h : (match PySem.intText? z with
            | some n => z.length ≤ sizeLine ∧ q (.int n) HW
            | none => False) := h
          cases ei : PySem.intText? z with
          | none => rw [ei] at h; exact h.elim
          | some m =>
            rw [ei] at h
            exact call_int_dig hd pins s σ H _ us Q I r ⟨_, _, rfl, ei, h.1, n.here .int rh h.2⟩
      · cases x <;> first | (exact False.elim h; done) | skip
        obtain rfl := rx.i_int
        exact call_abs pins s σ H _ us Q I r ⟨_, rfl, n.here .int rh h⟩
      · -- all
        cases x <;> first | (exact False.elim h; done) | skip
        rename_i a
        obtain rfl := rx.i_ref
        have h : (match HW a with
          | some (.lst ws) => (match bools ws with
            | some bs => q (.bl (bs.all id)) HW
            | none => False)
          | _ => False) := h
        cases ea : HW a with
        | none => rw [ea] at h; exact h.elim
        | some o =>
          rw [ea] at h
          cases o <;> first | (exact False.elim h; done) | skip
          rename_i ws
          obtain ⟨xs, ex, ra⟩ := rh _ _ ea
          have h : (match bools ws with
            | some bs => q (.bl (bs.all id)) HW
            | none => False) := h
          cases eb : bools ws with
          | none => rw [eb] at h; exact h.elim
          | some bs =>
            rw [eb] at h
            rw [ra.bools eb] at ex
            exact cr_all hc pins s σ H _ us Q I r ⟨a, bs, rfl, SqL.of ex, n.here .bl rh h⟩
      · -- any
        cases x <;> first | (exact False.elim h; done) | skip
        rename_i a
        obtain rfl := rx.i_ref
        have h : (match HW a with
          | some (.lst ws) => (match bools ws with
            | some bs => q (.bl (bs.any id)) HW
            | none => False)
          | _ => False) := h
        cases ea : HW a with
        | none => rw [ea] at h; exact h.elim
        | some o =>
          rw [ea] at h
          cases o <;> first | (exact False.elim h; done) | skip
          rename_i ws
          obtain ⟨xs, ex, ra⟩ := rh _ _ ea
          have h : (match bools ws with
            | some bs => q (.bl (bs.any id)) HW
            | none => False) := h
          cases eb : bools ws with
          | none => rw [eb] at h; exact h.elim
          | some bs =>
            rw [eb] at h
            rw [ra.bools eb] at ex
            exact cr_any hc pins s σ H _ us Q I r ⟨a, bs, rfl, SqL.of ex, n.here .bl rh h⟩
      · -- list
        cases x <;> first | (exact False.elim h; done) | skip
        · obtain ⟨a, xs, rfl, sa, ra⟩ := rx.i_tup
          refine call_list_of pins s σ H _ us Q I r ⟨a, xs, rfl, .inr sa, fun l hl => ?_⟩
          exact n _ _ _ _ (TLe.new hl) .ref (rh.newL hl ra) (h l (rh.free hl))
        · rename_i a
          obtain rfl := rx.i_ref
          have h : (match HW a with
            | some (.lst ws) => ∀ p, HW p = none → q (.ref p) (updW HW p (.lst ws))
            | some (.dct kvs) => ∀ p, HW p = none → q (.ref p) (updW HW p (.lst (kvs.map fun kv => kW kv.1)))
            | some (.fdc kvs) => ∀ p, HW p = none → q (.ref p) (updW HW p (.lst (kvs.map fun kv => kW kv.1)))
            | _ => False) := h
          cases ea : HW a with
          | none => rw [ea] at h; exact h.elim
          | some o =>
            rw [ea] at h
            cases o <;> first | (exact False.elim h; done) | skip
            · obtain ⟨xs, ex, ra⟩ := rh _ _ ea
              refine call_list_of pins s σ H _ us Q I r ⟨a, xs, rfl, .inl (SqL.of ex), fun l hl => ?_⟩
              exact n _ _ _ _ (TLe.new hl) .ref (rh.newL hl ra) (h l (rh.free hl))
            · obtain ⟨xs, ex, ra⟩ := rh _ _ ea
              exact call_listD hc pins s σ H _ us Q I r ⟨a, xs, rfl, .inl ex, fun l hl => n _ _ _ _ (TLe.new hl) .ref (rh.newL hl ra.keys.2) (h l (rh.free hl))⟩
            · obtain ⟨o0, xs, ex, ra⟩ := rh _ _ ea
              exact call_listD hc pins s σ H _ us Q I r ⟨a, xs, rfl, .inr ⟨o0, ex⟩, fun l hl => n _ _ _ _ (TLe.new hl) .ref (rh.newL hl ra.keys.2) (h l (rh.free hl))⟩
        · rename_i ns
          obtain ⟨a, rfl, sf⟩ := rx.i_scr
          refine call_list_of pins s σ H _ us Q I r ⟨a, ns.map V.int, rfl, .inl sf.sq, fun l hl => ?_⟩
          exact n _ _ _ _ (TLe.new hl) .ref (rh.newL hl (rel_ints ns)) (h l (rh.free hl))
      · -- tuple
        cases x <;> first | (exact False.elim h; done) | skip
        · obtain ⟨a, xs, rfl, sa, ra⟩ := rx.i_tup
          exact call_tuple_of pins s σ H _ us Q I r ⟨a, xs, rfl, .inr ⟨sa, n.here (.tup sa ra) rh h⟩⟩
        · rename_i a
          obtain rfl := rx.i_ref
          have h : (match HW a with
            | some (.lst ws) => q (.tup ws) HW
            | _ => False) := h
          cases ea : HW a with
          | none => rw [ea] at h; exact h.elim
          | some o =>
            rw [ea] at h
            cases o <;> first | (exact False.elim h; done) | skip
            obtain ⟨xs, ex, ra⟩ := rh _ _ ea
            refine call_tuple_of pins s σ H _ us Q I r ⟨a, xs, rfl, .inl ⟨SqL.of ex, fun l hl => ?_⟩⟩
            have t := TLe.new (Ω := om X A) (o := HO.tup xs) hl
            exact n _ _ _ _ t (.tup (SqT.of upd_same) (ra.mono t)) (rh.new0 hl) h
      · cases x <;> first | (exact False.elim h; done) | skip
        · obtain rfl := rx.i_int
          exact call_str_dig hc hd pins s σ H _ us Q I r ⟨_, rfl, h.1, n.here .str rh h.2⟩
        · obtain rfl := rx.i_str
          exact SkE.call_str_str pins s σ H _ us Q I r ⟨_, rfl, n.here .str rh h⟩
      · cases x <;> exact False.elim h
      · cases x <;> exact False.elim h
      · -- sorted
        cases x <;> first | (exact False.elim h; done) | skip
        rename_i a
        obtain rfl := rx.i_ref
        have h : (match HW a with
          | some (.lst ws) => srtO (strsW ws) HW q
          | some (.dct kvs) => srtO (keyS kvs) HW q
          | some (.fdc kvs) => srtO (keyS kvs) HW q
          | _ => False) := h
        have dd : ∀ {kvs : List (Key × W)} {xs : List (Key × V)}, srtO (keyS kvs) HW q → Rd H a (.dK xs) → RelKs (om X A) H kvs xs → wpAny (model X.prog X.w) X.A (call (.builtin "sorted") us) (fun w' s' => ∃ v' H', Inv X pins σ H' s' ∧ RelV v' w' ∧ Q v' H') X.xe s := by
          intro kvs xs h ex ra
          unfold srtO at h
          cases es : keyS kvs with
          | none => rw [es] at h; exact h.elim
          | some ks =>
            rw [es] at h
            exact call_sortedD hc pins s σ H _ us Q I r ⟨a, xs, ks, rfl, ex, by rw [← ra.keys.1]; exact keyS_ok es, h.1, fun ys p h1 h2 hp => n _ _ _ _ (TLe.new hp) .ref (rh.newL hp (rel_strs ys)) (h.2 ys p h1 h2 (rh.free hp))⟩
        cases ea : HW a with
        | none => rw [ea] at h; exact h.elim
        | some o =>
          rw [ea] at h
          cases o <;> first | (exact False.elim h; done) | skip
          · rename_i ws
            obtain ⟨xs, ex, ra⟩ := rh _ _ ea
            have h : srtO (strsW ws) HW q := h
            unfold srtO at h
            cases es : strsW ws with
            | none => rw [es] at h; exact h.elim
            | some ks =>
              rw [es] at h
              rw [ra.strs es] at ex
              exact cr_sortedS pins s σ H _ us Q I r ⟨a, ks, rfl, SqL.of ex, h.1, fun ys p h1 h2 hp => n _ _ _ _ (TLe.new hp) .ref (rh.newL hp (rel_strs ys)) (h.2 ys p h1 h2 (rh.free hp))⟩
          · obtain ⟨xs, ex, ra⟩ := rh _ _ ea
            exact dd h (.inl ex) ra
          · obtain ⟨o0, xs, ex, ra⟩ := rh _ _ ea
            exact dd h (.inr ⟨o0, ex⟩) ra
      · -- dict
        cases x <;> first | (exact False.elim h; done) | skip
        rename_i a
        obtain rfl := rx.i_ref
        have h : (match HW a with
          | some (.dct kvs) => ∀ p, HW p = none → q (.ref p) (updW HW p (.dct kvs))
          | some (.fdc kvs) => ∀ p, HW p = none → q (.ref p) (updW HW p (.dct kvs))
          | _ => False) := h
        cases ea : HW a with
        | none => rw [ea] at h; exact h.elim
        | some o =>
          rw [ea] at h
          cases o <;> first | (exact False.elim h; done) | skip
          · obtain ⟨xs, ex, ra⟩ := rh _ _ ea
            exact call_dictD pins s σ H _ us Q I r ⟨a, xs, rfl, .inl ex, fun p hp => n _ _ _ _ (TLe.new hp) .ref (rh.newD hp ra) (h p (rh.free hp))⟩
          · obtain ⟨o0, xs, ex, ra⟩ := rh _ _ ea
            exact call_dictD pins s σ H _ us Q I r ⟨a, xs, rfl, .inr ⟨o0, ex⟩, fun p hp => n _ _ _ _ (TLe.new hp) .ref (rh.newD hp ra) (h p (rh.free hp))⟩
      · -- sum
        cases x <;> first | (exact False.elim h; done) | skip
        rename_i a
        obtain rfl := rx.i_ref
        have h : (match HW a with
          | some (.lst ws) => (match intsW ws with
            | some ns => q (.int ns.sum) HW
            | none => False)
          | _ => False) := h
        cases ea : HW a with
        | none => rw [ea] at h; exact h.elim
        | some o =>
          rw [ea] at h
          cases o <;> first | (exact False.elim h; done) | skip
          rename_i ws
          obtain ⟨xs, ex, ra⟩ := rh _ _ ea
          have h : (match intsW ws with
            | some ns => q (.int ns.sum) HW
            | none => False) := h
          cases eb : intsW ws with
          | none => rw [eb] at h; exact h.elim
          | some bs =>
            rw [eb] at h
            rw [ra.ints eb] at ex
            exact cr_sum hc pins s σ H _ us Q I r ⟨a, bs, rfl, SqL.of ex, n.here .int rh h⟩
end
end Uw

namespace Uw
open PySem PySem.Spec PyProof.Rows L2

/-! ### the text, without places: names are slots -/
inductive Mth where
  | append | popAt | pop | index | count | extend | insert | reverse | clear | join
inductive T where
  | bad
  | var (i : Nat) | non | bl (b : Bool) | int (i : Int) | str (x : Str) | con (x : Str)
  | bin (op : Operator) (a b : T) | neg (a : T) | not (a : T) | and (a b : T) | or (a b : T)
  | tru (a : T) | cmp (op : CmpOp) (a b : T) | chn (o1 o2 : CmpOp) (a b c : T) | ite (c a b : T)
  | tup (es : T) | lst (es : T) | nil | cons (a b : T)
  | att (a : T) (f : Str) | idx (a i : T)
  | call (k : Str) (es : T) | callk (k : Str) (es : T) (ks : List Str) (kes : T) | mk (c : Str) (es : T) (ks : List Str) (kes : T) | blt (b : Blt) (es : T) | isi (e : T) (cs : List XC)
  | meth (o : T) (m : Str) (es : T) | bm (m : Mth) (o es : T)
  | lc (elt : T) (i : Nat) (it tst : T)
  | lc2 (elt : T) (i : Nat) (it tst : T) (j : Nat) (jt tst2 : T)
  | lrng (it : T) | slc (a lo hi : T) | opt (e : T) | scons (a r : T)
  | fst (parts : T) | fmt (e : T)
  | iter (e : T) | rng1 (a : T) | rng2 (a b : T)
  | enum (e : T) | zip (a b : T) | vals (e : T) | items (e : T)
  | get (o es : T) | dct (ps : T)
  | gn (i : Nat) | gt (ts : T)
  | asg (g e : T) | seta (o : T) (f : Str) (e : T) | sets (o i e : T) | augn (i : Nat) (op : Operator) (e : T) | augs (o i : T) (op : Operator) (e : T)
  | expr (e : T) | ret (e : T) | retn | pass | brk | cnt | ifs (c a b : T) | whl (c b : T) | for_ (g it b : T)
  | sup (d m : Str) (es : T)
  | rse (c : Str) (e : T)
  | rsx (c : Str) (es : T)
  | tryo (b : T) (cs : List XC) (s : T)
  | trya (b : T) (cs : List XC) (i : Nat) (s : T)
  | trym (b hs : T) | hnd (c : XC) (i : Option Nat) (s : T)
  | xf (i : Nat) (f : Str) | xis (i : Nat) (c : XC) | xis2 (i : Nat) (c d : XC)

structure FnI where
  ps : List Str
  nv : Nat
  /-- how it may be called: the number of values, the keywords -/
  sh : List (Nat × List Str)
  /-- the parameters that may lack, with their values -/
  dfl : List (Str × W)
  body : T
structure ClsI where
  init : Str
  meth : List (Str × Str)
  flds : List Str
/-- an own exception class: the built-in class under it, its __init__'s key -/
structure ExI where
  base : String
  init : Option Str
  /-- how many arguments; the fields, by the arguments' places -/
  ar : Nat := 0
  fl : List (Str × Nat) := []
  /-- the class that has the __init__ -/
  dc : Str := ""
structure GT where
  gl : Str → Bool
  mn : Str → Bool
  free : List Str
  fn : Str → Option FnI
  cl : Str → Option ClsI
  con : Str → Option W
  isa : Str → XC → Option Bool
  sup : Str → Str → Str → Option Str
  exn : Str → Option ExI
  /-- is an exception of the first class caught by the second -/
  exm : XC → XC → Option Bool

/-! ### helpers -/
def iterW (x : W) (H : HpW) (R : List W → (HpW → Prop) → HpW → Prop) : Prop := match x with
  | .tup ws => R ws (fun _ => True) H
  | .str z => R (z.cps.toList.map fun c => .str ⟨#[c]⟩) (fun _ => True) H
  | .ref a => (match H a with
    | some (.lst ws) => R ws (fun H' => H' a = some (.lst ws)) H
    | some (.dct kvs) => R (kvs.map fun kv => kW kv.1) (fun _ => True) (updW H a (.fdc kvs))
    | some (.fdc kvs) => R (kvs.map fun kv => kW kv.1) (fun _ => True) H
    | _ => False)
  | .scr ns => R (ns.map W.int) (fun _ => True) H
  | _ => False
def forW (g : W → StW → HpW → (StW → HpW → Prop) → Prop) (body : TSW) (D : EndsW) (gd : HpW → Prop) : List W → StW → HpW → Prop
  | [], σ, H => gd H ∧ D.nx σ H
  | w :: ws, σ, H => gd H ∧ g w σ H fun σ' H' => body { D with nx := forW g body D gd ws, ct := forW g body D gd ws, bk := D.nx } σ' H'
def whlW (t : TTW) (b : TSW) (D : EndsW) : Nat → StW → HpW → Prop
  | 0, _, _ => False
  | n + 1, σ, H => t σ H (fun k H1 => if k = true then b { D with nx := whlW t b D n, ct := whlW t b D n, bk := D.nx } σ H1 else D.nx σ H1) fun x H1 => D.ex x σ H1
def lcW (σ : StW) (i : Nat) (tt : TTW) (te : TEW) (D : Addr) (gd : HpW → Prop) (Q : HpW → Prop) : List W → HpW → Prop
  | [], H => gd H ∧ Q H
  | w :: ws, H => gd H ∧ tt (σ.set i (some w)) H (fun b H3 => if b = true then te (σ.set i (some w)) H3 (fun y H4 => ∃ acc, H4 D = some (.lst acc) ∧ acc.length < sizeLine ∧ lcW σ i tt te D gd Q ws (updW H4 D (.lst (acc ++ [y])))) (fun _ _ => False)
      else lcW σ i tt te D gd Q ws H3) fun _ _ => False
def lc2W (σ : StW) (i j : Nat) (tt : TTW) (ti : StW → HpW → (List W → (HpW → Prop) → HpW → Prop) → EW → Prop) (tt1 : TTW) (te : TEW) (D : Addr) (gd : HpW → Prop) (Q : HpW → Prop) : List W → HpW → Prop
  | [], H => gd H ∧ Q H
  | w :: ws, H => gd H ∧ tt (σ.set i (some w)) H (fun b H3 => if b = true then ti (σ.set i (some w)) H3 (fun ws1 gd1 H4 => lcW (σ.set i (some w)) j tt1 te D gd1 (lc2W σ i j tt ti tt1 te D gd Q ws) ws1 H4) (fun _ _ => False)
      else lc2W σ i j tt ti tt1 te D gd Q ws H3) fun _ _ => False
/-- a slice -/
def cutW {α : Type} (xs : List α) (lo hi : Option Int) : List α := (xs.drop (HT.sIx xs.length 0 lo)).take (HT.sIx xs.length xs.length hi - HT.sIx xs.length 0 lo)
def slcW (x : W) (lo hi : Option Int) (H : HpW) (Q : QW) : Prop := match x with
  | .str z => z.length ≤ sizeLine ∧ Q (.str (cutS z lo hi)) H
  | .tup ws => Q (.tup (cutW ws lo hi)) H
  | .ref a => (match H a with
    | some (.lst ws) => ∀ p, H p = none → Q (.ref p) (updW H p (.lst (cutW ws lo hi)))
    | _ => False)
  | .scr ns => ∀ p, H p = none → Q (.ref p) (updW H p (.lst ((cutW ns lo hi).map W.int)))
  | _ => False
/-- what *e gives -/
def seqW (x : W) (H : HpW) (Q : List W → Prop) : Prop := match x with
  | .tup ws => Q ws
  | .ref a => (match H a with
    | some (.lst ws) => Q ws
    | _ => False)
  | _ => False
/-- what a sequence holds, what it asks to stay so -/
def seqG (x : W) (H : HpW) : Option (List W × (HpW → Prop)) := match x with
  | .ref a => (match H a with
    | some (.lst ws) => some (ws, fun H' => H' a = some (.lst ws))
    | _ => none)
  | _ => none
/-- a list that is walked with its numbers -/
def enumL : Nat → List W → List W
  | _, [] => []
  | i, w :: ws => .tup [.int i, w] :: enumL (i + 1) ws
def enumW (x : W) (H : HpW) (R : List W → (HpW → Prop) → HpW → Prop) : Prop := match seqG x H with
  | some (ws, gd) => R (enumL 0 ws) gd H
  | none => False
def zipL : List W → List W → List W
  | w :: ws, u :: us => .tup [w, u] :: zipL ws us
  | _, _ => []
def zipW (x y : W) (H : HpW) (R : List W → (HpW → Prop) → HpW → Prop) : Prop := match seqG x H, seqG y H with
  | some (ws, g), some (us, g') => R (zipL ws us) (fun H' => g H' ∧ g' H') H
  | _, _ => False
/-- a dict, walked: it is locked from then on -/
def dctF (x : W) (H : HpW) (f : Key × W → W) (R : List W → (HpW → Prop) → HpW → Prop) : Prop := match x with
  | .ref a => (match H a with
    | some (.dct kvs) => R (kvs.map f) (fun _ => True) (updW H a (.fdc kvs))
    | some (.fdc kvs) => R (kvs.map f) (fun _ => True) H
    | _ => False)
  | _ => False
/-- is it a dict -/
def isDW (H : HpW) : W → Bool
  | .ref a => (match H a with
    | some (.dct _) => true
    | some (.fdc _) => true
    | _ => false)
  | .kdc _ _ => true
  | _ => false
def dgetW (kvs : List (Key × W)) (y d : W) (H : HpW) (Q : QW) : Prop := match keyW y with
  | some k => Q ((valW kvs k).getD d) H
  | none => False
def dctO (H : HpW) (a : Addr) : Option (List (Key × W)) := match H a with
  | some (.dct kvs) => some kvs
  | some (.fdc kvs) => some kvs
  | _ => none
/-- d.get(..) -/
def getM : W → List W → HpW → QW → Prop
  | .ref a, [y], H, Q => (match dctO H a with
    | some kvs => dgetW kvs y .non H Q
    | none => False)
  | .ref a, [y, d], H, Q => (match dctO H a with
    | some kvs => dgetW kvs y d H Q
    | none => False)
  | .kdc _ tb, [.str k], H, Q => Q ((tb.lookup k).getD .non) H
  | .kdc _ tb, [.str k, d], H, Q => Q ((tb.lookup k).getD d) H
  | _, _, _, _ => False
/-- pairs of a display -/
def pairsW : List W → List W → Option (List (Key × W))
  | [], [] => some []
  | y :: ys, w :: ws => (match keyW y with
    | some k => (pairsW ys ws).map ((k, w) :: ·)
    | none => none)
  | _, _ => none
def idxF (w : W) (ws : List W) : Option Nat := ws.findIdx? fun y => eqF y w
def cntF (w : W) (ws : List W) : Nat := ws.countP fun y => eqF y w
def putW {κ : Type} [DecidableEq κ] (kvs : List (κ × W)) (k : κ) (v : W) : List (κ × W) :=
  if (kvs.any fun kv => decide (kv.1 = k)) = true then kvs.map (fun kv => if kv.1 = k then (kv.1, v) else kv) else kvs ++ [(k, v)]
/-- fields: in place, or at the end -/
def putFW (f : Str) (v : W) : List (Str × W) → List (Str × W)
  | [] => [(f, v)]
  | (g, w) :: r => if g = f then (g, v) :: r else (g, w) :: putFW f v r
/-- the pairs, one behind another -/
def mergeW (kvs more : List (Key × W)) : List (Key × W) := more.foldl (fun acc kv => putW acc kv.1 kv.2) kvs
def setsW (o i v : W) (H : HpW) (Q : HpW → Prop) : Prop := match o with
  | .ref a => (match H a with
    | some (.lst ws) => (match i with
      | .int k => (match ixN ws.length k with
        | some j => Q (updW H a (.lst (ws.set j v)))
        | none => False)
      | _ => False)
    | some (.dct kvs) => (match keyW i with
      | some k => kvs.length < sizeLine ∧ Q (updW H a (.dct (putW kvs k v)))
      | none => False)
    | _ => False)
  | _ => False
def idxL (o i : W) (H : HpW) (Q : QW) : Prop := match o with
  | .ref a => (match H a with
    | some (.lst ws) => (match i with
      | .int k => (match atI ws k with
        | some w => Q w H
        | none => False)
      | _ => False)
    | _ => False)
  | _ => False
def bmW : Mth → W → List W → HpW → QW → Prop
  | .append, .ref a, [w], H, Q => (match H a with
    | some (.lst ws) => ws.length < sizeLine ∧ Q .non (updW H a (.lst (ws ++ [w])))
    | _ => False)
  | .popAt, .ref a, [.int i], H, Q => (match H a with
    | some (.lst ws) => (match ixN ws.length i with
      | some j => (match ws[j]? with
        | some w => Q w (updW H a (.lst (ws.eraseIdx j)))
        | none => False)
      | none => False)
    | _ => False)
  | .pop, .ref a, [], H, Q => (match H a with
    | some (.lst ws) => (match ws[ws.length - 1]? with
      | some w => Q w (updW H a (.lst ws.dropLast))
      | none => False)
    | _ => False)
  | .index, .ref a, [w], H, Q => (match H a with
    | some (.lst ws) => (flatW w = true ∧ ws.all flatW = true ∧ (match idxF w ws with
        | some j => Q (.int j) H
        | none => False)) ∨ ∃ d ds j z, DpW H w d ∧ DpW H (.ref a) (.list ds) ∧ SeqAt.shaped d = true ∧ SeqAt.shaped (.list ds) = true ∧ ds[j]? = some z ∧ PyData.eqv z d = true ∧ (∀ (m : Nat) (z' : PyData), m < j → ds[m]? = some z' → PyData.eqv z' d = false) ∧ Q (.int (j : Nat)) H
    | _ => False)
  | .count, .ref a, [w], H, Q => (match H a with
    | some (.lst ws) => flatW w = true ∧ ws.all flatW = true ∧ Q (.int (cntF w ws)) H
    | _ => False)
  | .extend, .ref a, [.ref b], H, Q => (match H a, H b with
    | some (.lst ws), some (.lst zs) => ws.length + zs.length ≤ sizeLine ∧ Q .non (updW H a (.lst (ws ++ zs)))
    | _, _ => False)
  | .insert, .ref a, [.int i, w], H, Q => (match H a with
    | some (.lst ws) => ws.length < sizeLine ∧ 0 ≤ i ∧ i < 2 ^ 63 ∧ Q .non (updW H a (.lst (ws.take i.toNat ++ [w] ++ ws.drop i.toNat)))
    | _ => False)
  | .reverse, .ref a, [], H, Q => (match H a with
    | some (.lst ws) => Q .non (updW H a (.lst ws.reverse))
    | _ => False)
  | .clear, .ref a, [], H, Q => (match H a with
    | some (.lst _) => Q .non (updW H a (.lst []))
    | _ => False)
  | .join, .str x, [.ref p], H, Q => (match H p with
    | some (.lst ws) => (match strsW ws with
      | some ys => (ys.map (·.length)).sum + ys.length * x.length ≤ 16777216 ∧ Q (.str (Txt.join x ys)) H
      | none => False)
    | _ => False)
  | .join, .str x, [.tup ws], H, Q => (match strsW ws with
      | some ys => (ys.map (·.length)).sum + ys.length * x.length ≤ 16777216 ∧ Q (.str (Txt.join x ys)) H
      | none => False)
  | _, _, _, _, _ => False
/-- what such a method asks of the object -/
def rcvW (m : Mth) (H : HpW) (x : W) : Bool := match m, x with
  | .join, .str _ => true
  | .join, _ => false
  | _, .ref a => (match H a with
    | some (.lst _) => true
    | _ => false)
  | _, _ => false
/-- the type of a value: a built-in's name, or an own class -/
def tyW (H : HpW) : W → Option (String ⊕ Str)
  | .non => some (.inl "NoneType")
  | .bl _ => some (.inl "bool")
  | .int _ => some (.inl "int")
  | .str _ => some (.inl "str")
  | .tup _ => some (.inl "tuple")
  | .ref a => (match H a with
    | some (.lst _) => some (.inl "list")
    | some (.dct _) => some (.inl "dict")
    | some (.ins k _) => some (.inr k)
    | _ => none)
  | _ => none
def isiB (t : String) : XC → Option Bool
  | .blt n => kitB t n
  | .own _ => none
/-- one value behind isinstance -/
def isiW (G : GT) (H : HpW) (x : W) (c : XC) : Option Bool := match tyW H x with
  | some (.inl t) => isiB t c
  | some (.inr k) => (match G.cl k with
    | some _ => G.isa k c
    | none => none)
  | none => none
/-- the arguments in the parameters' order: positional ones, keywords, then what lacks -/
def bindR {α : Type} (dfl kz : List (Str × α)) : List Str → Option (List α)
  | [] => some []
  | p :: r => (match bindR dfl kz r with
    | none => none
    | some q => (match kz.lookup p with
      | some z => some (z :: q)
      | none => (match dfl.lookup p with
        | some z => some (z :: q)
        | none => none)))
def bindG {α : Type} (ps : List Str) (dfl : List (Str × α)) (ks : List Str) (ws zs : List α) : Option (List α) :=
  if ws.length + zs.length ≤ ps.length then (match bindR dfl (ks.zip zs) (ps.drop ws.length) with
    | some r => some (ws ++ r)
    | none => none)
  else none
abbrev bindW (ps : List Str) (dfl : List (Str × W)) (ks : List Str) (ws zs : List W) : Option (List W) := bindG ps dfl ks ws zs

def FnI.bind (fi : FnI) (ks : List Str) (ws zs : List W) : Option (List W) := if (ws.length, ks) ∈ fi.sh ∧ zs.length = ks.length then bindW fi.ps fi.dfl ks ws zs else none
/-- calls: at this level; of an __init__; the exception at hand: where it stands, its class, its dict -/
structure Lv where
  c : CallW
  i : CallW
  x : Option (Addr × XC × Option Addr) := none
/-- within an except suite nothing is called -/
def Lv.off (z : Option (Addr × XC × Option Addr)) : Lv := ⟨fun _ _ _ _ _ => False, fun _ _ _ _ _ => False, z⟩
/-! ### operators that a class has of its own -/
def kncW (H : HpW) : W → Option Str
  | .ref p => (match H p with
    | some (.ins c _) => some c
    | _ => none)
  | _ => none
def ownM (G : GT) (H : HpW) (x : W) (m : Str) : Option Str := match kncW H x with
  | some c => (match G.cl c with
    | some ci => ci.meth.lookup m
    | none => none)
  | none => none
def call2 (G : GT) (f : CallW) (k : Str) (x y : W) (H : HpW) (Q : QW) (E : EW) : Prop := match G.fn k with
  | some fi => (match fi.bind [] [x, y] [] with
    | some zs => f k zs H Q E
    | none => False)
  | none => False
def dnB : Operator → Option (Str × Str)
  | .Add => some ("__add__", "__radd__")
  | .Mult => some ("__mul__", "__rmul__")
  | .Pow => some ("__pow__", "__rpow__")
  | .BitOr => some ("__or__", "__ror__")
  | _ => none
def isIntW : W → Bool
  | .int _ => true
  | _ => false
def binG (G : GT) (L : Lv) (op : Operator) (x y : W) (H : HpW) (Q : QW) (E : EW) : Prop := match dnB op with
  | none => binW op x y H Q
  | some (m, r) => match ownM G H x m with
    | some k => (kncW H x = kncW H y ∨ isIntW y = true) ∧ call2 G L.c k x y H Q E
    | none => match op, x, ownM G H y r, ownM G H y m with
      | .Mult, .int _, some k, some _ => call2 G L.c k y x H Q E
      | _, _, _, _ => binW op x y H Q
def dnC : CmpOp → Option Str
  | .Eq => some "__eq__"
  | .NotEq => some "__eq__"
  | .Lt => some "__lt__"
  | .LtE => some "__le__"
  | .Gt => some "__gt__"
  | .GtE => some "__ge__"
  | _ => none
def cmpG (G : GT) (L : Lv) (op : CmpOp) (x y : W) (H : HpW) (Q : QW) (E : EW) : Prop := match dnC op with
  | none => cmpW op x y H Q
  | some m => match ownM G H x m with
    | some k => kncW H x = kncW H y ∧ (if op = .NotEq then call2 G L.i k x y H (fun v H' => ∃ b, v = .bl b ∧ Q (.bl (!b)) H') E else call2 G L.c k x y H Q E)
    | none => cmpW op x y H Q
def opNm (m : Str) : Bool := (["__add__", "__mul__", "__pow__", "__or__", "__eq__", "__lt__", "__le__", "__gt__", "__ge__"] : List Str).contains m
/-- is an exception of the class x taken by one of the clauses -/
def exmW (G : GT) (x : XC) : List XC → Option Bool
  | [] => some false
  | c :: cs => (match G.exm x c with
    | some true => some true
    | some false => exmW G x cs
    | none => none)

mutual
def wE (G : GT) (L : Lv) : T → TEW
  | .var i => fun σ H Q _ => (match sg σ i with
    | some w => Q w H
    | none => False)
  | .non => fun _ H Q _ => Q .non H
  | .bl b => fun _ H Q _ => Q (.bl b) H
  | .int i => fun _ H Q _ => Q (.int i) H
  | .str x => fun _ H Q _ => Q (.str x) H
  | .con x => fun _ H Q _ => (match G.con x with
    | some w => Q w H
    | none => False)
  | .bin op a b => fun σ H Q E => wE G L a σ H (fun x H1 => wE G L b σ H1 (fun y H2 => binG G L op x y H2 Q E) E) E
  | .neg a => fun σ H Q E => wE G L a σ H (fun x H1 => match x with
    | .int i => Q (.int (-i)) H1
    | _ => False) E
  | .not a => fun σ H Q E => wE G L a σ H (fun w H1 => match truW H1 w with
    | some b => Q (.bl (!b)) H1
    | none => False) E
  | .and a b => fun σ H Q E => wE G L a σ H (fun x H1 => match x with
    | .bl k => if k = true then wE G L b σ H1 Q E else Q (.bl false) H1
    | _ => False) E
  | .or a b => fun σ H Q E => wE G L a σ H (fun x H1 => match x with
    | .bl k => if k = true then Q (.bl true) H1 else wE G L b σ H1 Q E
    | _ => False) E
  | .cmp op a b => fun σ H Q E => wE G L a σ H (fun x H1 => wE G L b σ H1 (fun y H2 => cmpG G L op x y H2 Q E) E) E
  | .chn o1 o2 a b c => fun σ H Q E => wE G L a σ H (fun x H1 => wE G L b σ H1 (fun y H2 => cmpW o1 x y H2 fun z H3 => match z with
    | .bl k => if k = true then wE G L c σ H3 (fun w H4 => cmpW o2 y w H4 Q) E else Q (.bl false) H3
    | _ => False) E) E
  | .ite c a b => fun σ H Q E => wT G L c σ H (fun k H1 => if k = true then wE G L a σ H1 Q E else wE G L b σ H1 Q E) E
  | .tup es => fun σ H Q E => wA G L es σ H (fun ws H1 => ws.length ≤ sizeLine ∧ Q (.tup ws) H1) E
  | .lst es => fun σ H Q E => wA G L es σ H (fun ws H1 => ws.length ≤ sizeLine ∧ ∀ p, H1 p = none → Q (.ref p) (updW H1 p (.lst ws))) E
  | .att a f => fun σ H Q E => wE G L a σ H (fun x H1 => match x with
    | .ref p => (match H1 p with
      | some (.ins c fs) => (match G.cl c with
        | some ci => f ∈ ci.flds ∧ (match fs.lookup f with
          | some w => Q w H1
          | none => False)
        | none => False)
      | _ => False)
    | _ => False) E
  | .idx a i => fun σ H Q E => wE G L a σ H (fun x H1 => wE G L i σ H1 (fun y H2 => idxW x y H2 Q) E) E
  | .call k es => fun σ H Q E => wA G L es σ H (fun ws H1 => match G.fn k with
    | some fi => (match fi.bind [] ws [] with
      | some zs => L.c k zs H1 Q E
      | none => False)
    | none => False) E
  | .callk k es ks kes => fun σ H Q E => wA G L es σ H (fun ws H1 => wA G L kes σ H1 (fun us H2 => match G.fn k with
    | some fi => (match fi.bind ks ws us with
      | some zs => L.c k zs H2 Q E
      | none => False)
    | none => False) E) E
  | .mk c es ks kes => fun σ H Q E => wA G L es σ H (fun ws H1 => wA G L kes σ H1 (fun zs H2 => match G.cl c with
    | some ci => (match G.fn ci.init with
      | some fi => ∀ x, H2 x = none → (match fi.bind ks (.ref x :: ws) zs with
        | some us => L.i ci.init us (updW H2 x (.ins c [])) (fun v H3 => v = .non ∧ Q (.ref x) H3) E
        | none => False)
      | none => False)
    | none => False) E) E
  | .blt b es => fun σ H Q E => wA G L es σ H (fun ws H1 => bltW b ws H1 Q) E
  | .isi e cs => fun σ H Q E => wE G L e σ H (fun x H1 => match cs with
    | [c] => (match isiW G H1 x c with
      | some b => Q (.bl b) H1
      | none => False)
    | _ => False) E
  | .meth o m es => fun σ H Q E => wE G L o σ H (fun x H1 => match x with
    | .ref p => (match H1 p with
      | some (.ins c fs) => fs.lookup m = none ∧ (match G.cl c with
        | some ci => (match ci.meth.lookup m with
          | some k => (match G.fn k with
            | some fi => wA G L es σ H1 (fun ws H2 => match fi.bind [] (.ref p :: ws) [] with
              | some zs => L.c k zs H2 Q E
              | none => False) E
            | none => False)
          | none => False)
        | none => False)
      | _ => False)
    | _ => False) E
  | .bm m o es => fun σ H Q E => wE G L o σ H (fun x H1 => rcvW m H1 x = true ∧ wA G L es σ H1 (fun ws H2 => bmW m x ws H2 Q) E) E
  | .get o es => fun σ H Q E => wE G L o σ H (fun x H1 => isDW H1 x = true ∧ wA G L es σ H1 (fun ws H2 => getM x ws H2 Q) E) E
  | .dct ps => fun σ H Q E => ∀ p, H p = none → wPr G L ps σ (updW H p (.dct [])) (fun kvs H1 => H1 p = some (.dct []) ∧ kvs.length ≤ 15 ∧ Q (.ref p) (updW H1 p (.dct (mergeW [] kvs)))) E
  | .lrng it => fun σ H Q E => wI G L it σ H (fun ws _ H1 => ws.length ≤ 2 ^ 24 ∧ ∀ p, H1 p = none → Q (.ref p) (updW H1 p (.lst ws))) E
  | .slc a lo hi => fun σ H Q E => wE G L a σ H (fun x H1 => wP G L lo σ H1 (fun l H2 => wP G L hi σ H2 (fun u H3 => slcW x l u H3 Q) E) E) E
  | .lc2 elt i it tst j jt tst2 => fun σ H Q E => wI G L it σ H (fun ws gd H1 => ∀ D, H1 D = none → lc2W ((σ.set j none).set i none) i j (wT G L tst) (wI G L jt) (wT G L tst2) (wE G L elt) D gd (fun H' => Q (.ref D) H') ws (updW H1 D (.lst []))) E
  | .lc elt i it tst => fun σ H Q E => wI G L it σ H (fun ws gd H1 => ∀ D, H1 D = none → lcW (σ.set i none) i (wT G L tst) (wE G L elt) D gd (fun H' => Q (.ref D) H') ws (updW H1 D (.lst []))) E
  | .fst parts => fun σ H Q E => wJ G L parts Str.empty σ H (fun z H1 => Q (.str z) H1) E
  | .fmt e => fun σ H Q E => wE G L e σ H (fun x H1 => match x with
    | .str y => y.length ≤ sizeLine ∧ Q (.str y) H1
    | .int i => i.natAbs.log2 < 1920 ∧ Q (.str (toString i)) H1
    | _ => False) E
  | .xf i f => fun σ H Q _ => (match sg σ i, L.x with
    | some (.ref a), some (a', .own c, some dd) => a = a' ∧ (match G.exn c, H dd with
      | some xi, some (.xd fs) => xi.init.isSome = true ∧ f ∈ xi.fl.map (·.1) ∧ (match fs.lookup f with
        | some w => Q w H
        | none => False)
      | _, _ => False)
    | _, _ => False)
  | .xis2 i c c2 => fun σ H Q _ => (match sg σ i, L.x with
    | some (.ref a), some (a', .own k, d) => a = a' ∧ (∀ dd, d = some dd → ∃ fs, H dd = some (.xd fs)) ∧ (match G.exn k with
      | some _ => (match G.isa k c, G.isa k c2 with
        | some b, some b' => Q (.bl (b || b')) H
        | _, _ => False)
      | none => False)
    | _, _ => False)
  | .xis i c => fun σ H Q _ => (match sg σ i, L.x with
    | some (.ref a), some (a', .own k, d) => a = a' ∧ (∀ dd, d = some dd → ∃ fs, H dd = some (.xd fs)) ∧ (match G.exn k with
      | some _ => (match G.isa k c with
        | some b => Q (.bl b) H
        | none => False)
      | none => False)
    | _, _ => False)
  | _ => fun _ _ _ _ => False
def wT (G : GT) (L : Lv) : T → TTW
  | .not a => fun σ H Q E => wT G L a σ H (fun b H1 => Q (!b) H1) E
  | .and a b => fun σ H Q E => wT G L a σ H (fun k H1 => if k = true then wT G L b σ H1 Q E else Q false H1) E
  | .or a b => fun σ H Q E => wT G L a σ H (fun k H1 => if k = true then Q true H1 else wT G L b σ H1 Q E) E
  | .cmp op a b => fun σ H Q E => wE G L a σ H (fun x H1 => wE G L b σ H1 (fun y H2 => cmpG G L op x y H2 (fun z H3 => match z with
    | .bl k => Q k H3
    | _ => False) E) E) E
  | .chn o1 o2 a b c => fun σ H Q E => wE G L a σ H (fun x H1 => wE G L b σ H1 (fun y H2 => cmpW o1 x y H2 fun z H3 => match z with
    | .bl k => if k = true then wE G L c σ H3 (fun w H4 => cmpW o2 y w H4 fun z2 H5 => match z2 with
      | .bl k2 => Q k2 H5
      | _ => False) E else Q false H3
    | _ => False) E) E
  | .tru a => fun σ H Q E => wE G L a σ H (fun w H1 => match truW H1 w with
    | some b => Q b H1
    | none => False) E
  | _ => fun _ _ _ _ => False
def wA (G : GT) (L : Lv) : T → TAW
  | .nil => fun _ H Q _ => Q [] H
  | .scons a r => fun σ H Q E => wE G L a σ H (fun x H1 => seqW x H1 fun ws => wA G L r σ H1 (fun xs H2 => Q (ws ++ xs) H2) E) E
  | .cons a r => fun σ H Q E => wE G L a σ H (fun x H1 => wA G L r σ H1 (fun xs H2 => Q (x :: xs) H2) E) E
  | _ => fun _ _ _ _ => False
/-- the pairs of a display, key and value in turn -/
def wPr (G : GT) (L : Lv) : T → StW → HpW → (List (Key × W) → HpW → Prop) → EW → Prop
  | .nil => fun _ H Q _ => Q [] H
  | .cons k (.cons v r) => fun σ H Q E => wE G L k σ H (fun y H1 => wE G L v σ H1 (fun w H2 => match keyW y with
      | some z => wPr G L r σ H2 (fun kvs H3 => Q ((z, w) :: kvs) H3) E
      | none => False) E) E
  | _ => fun _ _ _ _ => False
/-- a part of a slice -/
def wP (G : GT) (L : Lv) : T → StW → HpW → (Option Int → HpW → Prop) → EW → Prop
  | .nil => fun _ H Q _ => Q none H
  | .opt a => fun σ H Q E => wE G L a σ H (fun x H1 => match x with
    | .int i => Q (some i) H1
    | _ => False) E
  | _ => fun _ _ _ _ => False
def wJ (G : GT) (L : Lv) : T → Str → StW → HpW → (Str → HpW → Prop) → EW → Prop
  | .nil => fun acc _ H Q _ => Q acc H
  | .cons a r => fun acc σ H Q E => wE G L a σ H (fun x H1 => match x with
    | .str y => acc.length + y.length ≤ sizeLine ∧ wJ G L r (acc ++ y) σ H1 Q E
    | _ => False) E
  | _ => fun _ _ _ _ _ => False
def wI (G : GT) (L : Lv) : T → StW → HpW → (List W → (HpW → Prop) → HpW → Prop) → EW → Prop
  | .iter e => fun σ H R E => wE G L e σ H (fun x H1 => iterW x H1 R) E
  | .rng1 a => fun σ H R E => wE G L a σ H (fun x H1 => match x with
    | .int j => (-(2 ^ 62) ≤ j ∧ j < 2 ^ 62) ∧ R ((List.range j.toNat).map fun k : Nat => .int k) (fun _ => True) H1
    | _ => False) E
  | .rng2 a b => fun σ H R E => wE G L a σ H (fun x H1 => wE G L b σ H1 (fun y H2 => match x, y with
    | .int i, .int j => (-(2 ^ 62) ≤ i ∧ i < 2 ^ 62 ∧ -(2 ^ 62) ≤ j ∧ j < 2 ^ 62) ∧ R ((List.range (j - i).toNat).map fun k : Nat => .int (i + k)) (fun _ => True) H2
    | _, _ => False) E) E
  | .enum e => fun σ H R E => wE G L e σ H (fun x H1 => enumW x H1 R) E
  | .zip a b => fun σ H R E => wE G L a σ H (fun x H1 => wE G L b σ H1 (fun y H2 => zipW x y H2 R) E) E
  | .vals e => fun σ H R E => wE G L e σ H (fun x H1 => dctF x H1 (fun kv => kv.2) R) E
  | .items e => fun σ H R E => wE G L e σ H (fun x H1 => dctF x H1 (fun kv => .tup [kW kv.1, kv.2]) R) E
  | _ => fun _ _ _ _ => False
end
mutual
def wG : T → W → StW → HpW → (StW → HpW → Prop) → Prop
  | .gn i => fun w σ H Q => Q (σ.set i (some w)) H
  | .gt ts => fun w σ H Q => (match w with
    | .tup ws => wGs ts ws σ H Q
    | _ => False)
  | _ => fun _ _ _ _ => False
def wGs : T → List W → StW → HpW → (StW → HpW → Prop) → Prop
  | .nil => fun ws σ H Q => ws = [] ∧ Q σ H
  | .cons g r => fun ws σ H Q => (match ws with
    | w :: q => wG g w σ H fun σ' H' => wGs r q σ' H' Q
    | [] => False)
  | _ => fun _ _ _ _ => False
end
/-- the ends of a suite whose name goes behind it -/
def asEnds (i : Nat) (D : EndsW) : EndsW := { nx := fun σ2 H2 => D.nx (σ2.set i none) H2, rt := D.rt, bk := fun σ2 H2 => D.bk (σ2.set i none) H2, ct := fun σ2 H2 => D.ct (σ2.set i none) H2, ex := fun _ _ _ => False }
/-- the fields of an exception: name and place among the arguments; the newest first -/
def fldsOf {α : Type} (rest : List α) : List (Str × Nat) → List (Str × α) → Option (List (Str × α))
  | [], acc => some acc
  | (f, i) :: r, acc => (match rest[i]? with
    | some v => fldsOf rest r ((f, v) :: acc)
    | none => none)
mutual
def wS (G : GT) (L : Lv) : T → TSW
  | .nil => fun D σ H => D.nx σ H
  | .cons a r => fun D σ H => wS G L a { D with nx := wS G L r D } σ H
  | .asg g e => fun D σ H => wE G L e σ H (fun x H1 => wG g x σ H1 D.nx) fun x H1 => D.ex x σ H1
  | .seta o f e => fun D σ H => wE G L e σ H (fun y H1 => wE G L o σ H1 (fun x H2 => match x with
    | .ref p => (match H2 p with
      | some (.ins c fs) => (match G.cl c with
        | some ci => f ∈ ci.flds ∧ fs.length < 1000 ∧ D.nx σ (updW H2 p (.ins c (putFW f y fs)))
        | none => False)
      | _ => False)
    | _ => False) fun x H1 => D.ex x σ H1) fun x H1 => D.ex x σ H1
  | .sets o i e => fun D σ H => wE G L e σ H (fun v H1 => wE G L o σ H1 (fun x H2 => wE G L i σ H2 (fun y H3 => setsW x y v H3 fun H4 => D.nx σ H4) fun x H1 => D.ex x σ H1) fun x H1 => D.ex x σ H1) fun x H1 => D.ex x σ H1
  | .augn i op e => fun D σ H => (match sg σ i with
    | some (.int x) => wE G L e σ H (fun y H1 => match op, y with
      | .Add, .int z => D.nx (σ.set i (some (.int (x + z)))) H1
      | .Sub, .int z => D.nx (σ.set i (some (.int (x - z)))) H1
      | _, _ => False) fun x H1 => D.ex x σ H1
    | _ => False)
  | .augs o i op e => fun D σ H => wE G L o σ H (fun x H1 => wE G L i σ H1 (fun y H2 => idxL x y H2 fun u H3 => wE G L e σ H3 (fun z H4 => match op, u, z with
      | .Add, .int m, .int n => setsW x y (.int (m + n)) H4 fun H5 => D.nx σ H5
      | .Sub, .int m, .int n => setsW x y (.int (m - n)) H4 fun H5 => D.nx σ H5
      | _, _, _ => False) fun x H1 => D.ex x σ H1) fun x H1 => D.ex x σ H1) fun x H1 => D.ex x σ H1
  | .expr e => fun D σ H => wE G L e σ H (fun _ H1 => D.nx σ H1) fun x H1 => D.ex x σ H1
  | .ret e => fun D σ H => wE G L e σ H D.rt fun x H1 => D.ex x σ H1
  | .retn => fun D _ H => D.rt .non H
  | .pass => fun D σ H => D.nx σ H
  | .brk => fun D σ H => D.bk σ H
  | .cnt => fun D σ H => D.ct σ H
  | .ifs c a b => fun D σ H => wT G L c σ H (fun k H1 => if k = true then wS G L a D σ H1 else wS G L b D σ H1) fun x H1 => D.ex x σ H1
  | .whl c b => fun D σ H => ∃ n, whlW (wT G L c) (wS G L b) D n σ H
  | .for_ g it b => fun D σ H => wI G L it σ H (fun ws gd H1 => forW (wG g) (wS G L b) D gd ws σ H1) fun x H1 => D.ex x σ H1
  | .sup d m es => fun D σ H => (match sg σ 0 with
    | some (.ref p) => (match H p with
      | some (.ins c _) => (match G.cl c with
        | some _ => (match G.sup c d m with
          | some k => (match G.fn k with
            | some fi => wA G L es σ H (fun ws H1 => match fi.bind [] (.ref p :: ws) [] with
              | some zs => L.c k zs H1 (fun _ H2 => D.nx σ H2) fun x H2 => D.ex x σ H2
              | none => False) fun x H2 => D.ex x σ H2
            | none => False)
          | none => False)
        | none => False)
      | _ => False)
    | _ => False)
  | .tryo b cs s => fun D σ H => wS G L b { D with ex := fun x σ' H' => match exmW G x.cls cs with
      | some true => wS G (Lv.off none) s { D with ex := fun _ _ _ => False } σ' H'
      | some false => D.ex x σ' H'
      | none => False } σ H
  | .trya b cs i s => fun D σ H => wS G L b { D with ex := fun x σ' H' => match exmW G x.cls cs with
      | some true => (match x.fs with
        | [] => ∀ a, H' a = none → wS G (Lv.off (some (a, x.cls, none))) s (asEnds i D) (σ'.set i (some (.ref a))) H'
        | _ => ∀ a dd, H' a = none → H' dd = none → a ≠ dd → wS G (Lv.off (some (a, x.cls, some dd))) s (asEnds i D) (σ'.set i (some (.ref a))) (updW H' dd (.xd x.fs)))
      | some false => D.ex x σ' H'
      | none => False } σ H
  | .rsx c es => fun D σ H => wA G L es σ H (fun ws H1 => match G.exn c with
    | some xi => ws.length = xi.ar ∧ ws.length ≤ 1000 ∧ (match fldsOf ws xi.fl [] with
      | some fs => D.ex ⟨.own c, fs⟩ σ H1
      | none => False)
    | none => False) fun x H1 => D.ex x σ H1
  | .rse c e => fun D σ H => (match G.exn c with
    | some xi => (match xi.init with
      | none => wE G L e σ H (fun _ H1 => D.ex ⟨.own c, []⟩ σ H1) fun x H1 => D.ex x σ H1
      | some _ => False)
    | none => False)
  | .trym b hs => fun D σ H => wS G L b { D with ex := fun x σ' H' => wH G L hs D x σ' H' } σ H
  | _ => fun _ _ _ => False
/-- the except clauses, one after the other -/
def wH (G : GT) (L : Lv) : T → EndsW → Ex → StW → HpW → Prop
  | .nil => fun D x σ H => D.ex x σ H
  | .cons (.hnd c oi s) r => fun D x σ H => (match G.exm x.cls c with
    | some true => (match oi with
      | none => wS G (Lv.off none) s { D with ex := fun _ _ _ => False } σ H
      | some i => (match x.fs with
        | [] => ∀ a, H a = none → wS G (Lv.off (some (a, x.cls, none))) s (asEnds i D) (σ.set i (some (.ref a))) H
        | _ => ∀ a dd, H a = none → H dd = none → a ≠ dd → wS G (Lv.off (some (a, x.cls, some dd))) s (asEnds i D) (σ.set i (some (.ref a))) (updW H dd (.xd x.fs))))
    | some false => wH G L r D x σ H
    | none => False)
  | _ => fun _ _ _ _ => False
end

/-- what a def does: at its return the heap may be told in part -/
def fnW (G : GT) (L : Lv) (k : Str) (ws : List W) (H : HpW) (Q : QW) (E : EW) : Prop := match G.fn k with
  | some fi => ws.length = fi.ps.length ∧ wS G L fi.body
      { nx := fun _ H' => ∃ H'', Sub H'' H' ∧ Q .non H'', rt := fun w H' => ∃ H'', Sub H'' H' ∧ Q w H'', bk := fun _ _ => False, ct := fun _ _ => False, ex := fun x _ H' => ∃ H'', Sub H'' H' ∧ E x H'' }
      (ws.map some ++ List.replicate (fi.nv - ws.length) none) H
  | none => False
def semP (G : GT) : Nat → Lv
  | 0 => { c := fun _ _ _ _ _ => False, i := fun _ _ _ _ _ => False }
  | n + 1 => { c := fnW G (semP G n), i := (semP G n).c }
/-- a call of the def k by at most n calls one in another -/
def sem (G : GT) (n : Nat) : CallW := (semP G n).c
end Uw

namespace Uw
open PySem PySem.Spec PyProof.Rows L2
section
variable {X : Cx} {A : Ad} {Wx : WX}
/-- the judgements -/
abbrev PEw (X : Cx) (A : Ad) (Wx : WX) (e : Expr) (t : TEW) : Prop := PE X e (canE (om X A) Wx t)
abbrev PTw (X : Cx) (A : Ad) (Wx : WX) (e : Expr) (t : TTW) : Prop := PT X e (canT (om X A) Wx t)
abbrev PAw (X : Cx) (A : Ad) (Wx : WX) (es : List Expr) (t : TAW) : Prop := PA X es (canA (om X A) Wx t)

variable {a b c e : Expr} {es : List Expr} {ta tb tc te : TEW} {tt tu : TTW} {ts : TAW} {pos : Pos}
theorem pew_bad : PEw X A Wx e (fun _ _ _ _ => False) := ⟨fun _ _ _ _ _ _ ⟨_, _, _, _, _, _, h, _⟩ => h.elim⟩
theorem ptw_bad : PTw X A Wx e (fun _ _ _ _ => False) := ⟨fun _ _ _ _ _ _ ⟨_, _, _, _, _, _, h, _⟩ => h.elim⟩
theorem paw_bad : PAw X A Wx es (fun _ _ _ _ => False) := ⟨fun _ _ _ _ _ _ _ ⟨_, _, _, _, _, _, h, _⟩ => h.elim⟩
theorem pew_var {i : Nat} {x : Str} (hN : X.N[i]? = some x) (hv : Vis X.env.scope x) (hd : (x == ("__debug__" : Str)) = false) (hcd : (x == ("__classdict__" : Str)) = false) :
    PEw X A Wx (.Name x pos) (fun σ H Q _ => match sg σ i with
      | some w => Q w H
      | none => False) := peW (pe_var hN hv hd hcd) fun σ H Q ⟨σW, HW, q, ee, rs, rh, h, n, _⟩ => by
  dsimp only at h
  cases e1 : sg σW i with
  | none => rw [e1] at h; exact h.elim
  | some w =>
    rw [e1] at h
    obtain ⟨v, e2, r⟩ := rs.get (sg_eq e1)
    exact ⟨v, e2, n.here r rh h⟩
theorem pew_c {w : W} {v : V} (h : PE X e (tC v)) (r : ∀ H, RelW (om X A) H w v) : PEw X A Wx e (fun _ H Q _ => Q w H) :=
  peW h fun σ H Q ⟨σW, HW, q, ee, rs, rh, h, n, _⟩ => n.here (r H) rh h
theorem pew_bin {op : Operator} (ha : PEw X A Wx a ta) (hb : PEw X A Wx b tb) : PEw X A Wx (.BinOp a op b pos) (fun σ H Q E => ta σ H (fun x H1 => tb σ H1 (fun y H2 => binW op x y H2 Q) E) E) :=
  peW (pe_op op_bin ha hb) fun σ H Q ⟨σW, HW, q, ee, rs, rh, h, n, xr⟩ => ⟨σW, HW, _, ee, rs, rh, h, fun x HW1 v H1 t1 rx rh1 h1 => ⟨σW, HW1, _, ee, rs.mono t1, rh1, h1, fun y HW2 u H2 t2 ry rh2 h2 =>
    ⟨x, y, HW2, q, rx.mono t2, ry, rh2, h2, n.later (t1.trans t2)⟩, xr.later t1⟩, xr⟩
theorem pew_neg (ha : PEw X A Wx a ta) : PEw X A Wx (.UnaryOp .USub a pos) (fun σ H Q E => ta σ H (fun x H1 => match x with
    | .int i => Q (.int (-i)) H1
    | _ => False) E) :=
  peW (pe_un un_neg ha) fun σ H Q ⟨σW, HW, q, ee, rs, rh, h, n, xr⟩ => ⟨σW, HW, _, ee, rs, rh, h, fun x HW1 v H1 t1 rx rh1 h1 => by
    cases x <;> first | (exact False.elim h1; done) | skip
    obtain rfl := rx.i_int
    exact ⟨_, rfl, (n.later t1).here .int rh1 h1⟩, xr⟩
theorem pew_not (ha : PEw X A Wx a ta) : PEw X A Wx (.UnaryOp .Not a pos) (fun σ H Q E => ta σ H (fun w H1 => match truW H1 w with
    | some b => Q (.bl (!b)) H1
    | none => False) E) :=
  peW (pe_notT ha) fun σ H Q ⟨σW, HW, q, ee, rs, rh, h, n, xr⟩ => ⟨σW, HW, _, ee, rs, rh, h, fun x HW1 v H1 t1 rx rh1 h1 => by
    dsimp only at h1
    cases e1 : truW HW1 x with
    | none => rw [e1] at h1; exact h1.elim
    | some b => rw [e1] at h1; exact ⟨b, tru_okW rx rh1 e1, (n.later t1).here .bl rh1 h1⟩, xr⟩
theorem pew_and {rest : List Expr} (ha : PEw X A Wx a ta) (hb : PEw X A Wx (.BoolOp .And (b :: rest) pos) tb) : PEw X A Wx (.BoolOp .And (a :: b :: rest) pos) (fun σ H Q E => ta σ H (fun x H1 => match x with
    | .bl k => if k = true then tb σ H1 Q E else Q (.bl false) H1
    | _ => False) E) :=
  peW (pe_and ha hb) fun σ H Q ⟨σW, HW, q, ee, rs, rh, h, n, xr⟩ => ⟨σW, HW, _, ee, rs, rh, h, fun x HW1 v H1 t1 rx rh1 h1 => by
    cases x <;> first | (exact False.elim h1; done) | skip
    rename_i k
    obtain rfl := rx.i_bl
    refine ⟨k, rfl, ?_⟩
    replace h1 : if k = true then tb σW HW1 q ee else q (.bl false) HW1 := h1
    cases k with
    | true => exact ⟨σW, HW1, q, ee, rs.mono t1, rh1, h1, n.later t1, xr.later t1⟩
    | false => exact (n.later t1).here .bl rh1 h1, xr⟩
theorem pew_or {rest : List Expr} (ha : PEw X A Wx a ta) (hb : PEw X A Wx (.BoolOp .Or (b :: rest) pos) tb) : PEw X A Wx (.BoolOp .Or (a :: b :: rest) pos) (fun σ H Q E => ta σ H (fun x H1 => match x with
    | .bl k => if k = true then Q (.bl true) H1 else tb σ H1 Q E
    | _ => False) E) :=
  peW (pe_or ha hb) fun σ H Q ⟨σW, HW, q, ee, rs, rh, h, n, xr⟩ => ⟨σW, HW, _, ee, rs, rh, h, fun x HW1 v H1 t1 rx rh1 h1 => by
    cases x <;> first | (exact False.elim h1; done) | skip
    rename_i k
    obtain rfl := rx.i_bl
    refine ⟨k, rfl, ?_⟩
    replace h1 : if k = true then q (.bl true) HW1 else tb σW HW1 q ee := h1
    cases k with
    | false => exact ⟨σW, HW1, q, ee, rs.mono t1, rh1, h1, n.later t1, xr.later t1⟩
    | true => exact (n.later t1).here .bl rh1 h1, xr⟩
theorem pew_cmp {op : CmpOp} (hu : X.A.units + 65 < cLine) (ha : PEw X A Wx a ta) (hb : PEw X A Wx b tb) (hm : behindInMarks op b = false) : PEw X A Wx (.Compare a [op] [b] pos) (fun σ H Q E => ta σ H (fun x H1 => tb σ H1 (fun y H2 => cmpW op x y H2 Q) E) E) :=
  peW (pe_cmpR (op_cmp hu) ha hb hm) fun σ H Q ⟨σW, HW, q, ee, rs, rh, h, n, xr⟩ => ⟨σW, HW, _, ee, rs, rh, h, fun x HW1 v H1 t1 rx rh1 h1 => ⟨σW, HW1, _, ee, rs.mono t1, rh1, h1, fun y HW2 u H2 t2 ry rh2 h2 =>
    ⟨x, y, HW2, q, rx.mono t2, ry, rh2, h2, n.later (t1.trans t2)⟩, xr.later t1⟩, xr⟩
theorem ptw_cmp {op : CmpOp} (hu : X.A.units + 65 < cLine) (ha : PEw X A Wx a ta) (hb : PEw X A Wx b tb) (hm : behindInMarks op b = false) : PTw X A Wx (.Compare a [op] [b] pos) (fun σ H Q E => ta σ H (fun x H1 => tb σ H1 (fun y H2 => cmpW op x y H2 fun z H3 => match z with
    | .bl k => Q k H3
    | _ => False) E) E) :=
  ptW (pt_cmpR (op_cmp hu) ha hb hm) fun σ H Q ⟨σW, HW, q, ee, rs, rh, h, n, xr⟩ => ⟨σW, HW, _, ee, rs, rh, h, fun x HW1 v H1 t1 rx rh1 h1 => ⟨σW, HW1, _, ee, rs.mono t1, rh1, h1, fun y HW2 u H2 t2 ry rh2 h2 =>
    ⟨x, y, HW2, _, rx.mono t2, ry, rh2, h2, fun z HW3 v3 H3 t3 r3 rh3 h3 => by
      cases z <;> first | (exact False.elim h3; done) | skip
      obtain rfl := r3.i_bl
      exact ⟨_, rfl, n _ _ _ ((t1.trans t2).trans t3) rh3 h3⟩⟩, xr.later t1⟩, xr⟩
theorem pew_chn {o1 o2 : CmpOp} (hu : X.A.units + 65 < cLine) (ha : PEw X A Wx a ta) (hb : PEw X A Wx b tb) (hc : PEw X A Wx c tc) (hm : lastMarks [o1, o2] [b, c] = false) :
    PEw X A Wx (.Compare a [o1, o2] [b, c] pos) (fun σ H Q E => ta σ H (fun x H1 => tb σ H1 (fun y H2 => cmpW o1 x y H2 fun z H3 => match z with
    | .bl k => if k = true then tc σ H3 (fun w H4 => cmpW o2 y w H4 Q) E else Q (.bl false) H3
    | _ => False) E) E) :=
  peW (pe_chain (op_cmp hu) (op_cmp hu) ha hb hc hm) fun σ H Q ⟨σW, HW, q, ee, rs, rh, h, n, xr⟩ => ⟨σW, HW, _, ee, rs, rh, h, fun x HW1 v H1 t1 rx rh1 h1 => ⟨σW, HW1, _, ee, rs.mono t1, rh1, h1, fun y HW2 u H2 t2 ry rh2 h2 =>
    ⟨x, y, HW2, _, rx.mono t2, ry, rh2, h2, fun z HW3 v3 H3 t3 r3 rh3 h3 => by
      cases z <;> first | (exact False.elim h3; done) | skip
      rename_i k
      obtain rfl := r3.i_bl
      refine ⟨k, rfl, ?_⟩
      replace h3 : if k = true then tc σW HW3 (fun w H4 => cmpW o2 y w H4 q) ee else q (.bl false) HW3 := h3
      have t := (t1.trans t2).trans t3
      cases k with
      | false => exact (n.later t).here .bl rh3 h3
      | true => exact ⟨σW, HW3, _, ee, rs.mono t, rh3, h3, fun w HW4 v4 H4 t4 r4 rh4 h4 => ⟨y, w, HW4, q, (ry.mono t3).mono t4, r4, rh4, h4, n.later (t.trans t4)⟩, xr.later t⟩⟩, xr.later t1⟩, xr⟩
theorem ptw_chn {o1 o2 : CmpOp} (hu : X.A.units + 65 < cLine) (ha : PEw X A Wx a ta) (hb : PEw X A Wx b tb) (hc : PEw X A Wx c tc) (hm : lastMarks [o1, o2] [b, c] = false) :
    PTw X A Wx (.Compare a [o1, o2] [b, c] pos) (fun σ H Q E => ta σ H (fun x H1 => tb σ H1 (fun y H2 => cmpW o1 x y H2 fun z H3 => match z with
    | .bl k => if k = true then tc σ H3 (fun w H4 => cmpW o2 y w H4 fun z2 H5 => match z2 with
      | .bl k2 => Q k2 H5
      | _ => False) E else Q false H3
    | _ => False) E) E) :=
  ptW (pt_chain (op_cmp hu) (op_cmp hu) ha hb hc hm) fun σ H Q ⟨σW, HW, q, ee, rs, rh, h, n, xr⟩ => ⟨σW, HW, _, ee, rs, rh, h, fun x HW1 v H1 t1 rx rh1 h1 => ⟨σW, HW1, _, ee, rs.mono t1, rh1, h1, fun y HW2 u H2 t2 ry rh2 h2 =>
    ⟨x, y, HW2, _, rx.mono t2, ry, rh2, h2, fun z HW3 v3 H3 t3 r3 rh3 h3 => by
      cases z <;> first | (exact False.elim h3; done) | skip
      rename_i k
      obtain rfl := r3.i_bl
      refine ⟨k, rfl, ?_⟩
      replace h3 : if k = true then tc σW HW3 (fun w H4 => cmpW o2 y w H4 fun z2 H5 => match z2 with
        | .bl k2 => q k2 H5
        | _ => False) ee else q false HW3 := h3
      have t := (t1.trans t2).trans t3
      cases k with
      | false => exact ⟨false, rfl, n _ _ _ t rh3 h3⟩
      | true => exact ⟨σW, HW3, _, ee, rs.mono t, rh3, h3, fun w HW4 v4 H4 t4 r4 rh4 h4 => ⟨y, w, HW4, _, (ry.mono t3).mono t4, r4, rh4, h4, fun z5 HW5 v5 H5 t5 r5 rh5 h5 => by
          cases z5 <;> first | (exact False.elim h5; done) | skip
          obtain rfl := r5.i_bl
          exact ⟨_, rfl, n _ _ _ ((t.trans t4).trans t5) rh5 h5⟩⟩, xr.later t⟩⟩, xr.later t1⟩, xr⟩
theorem pew_ite (hc : PTw X A Wx c tt) (ha : PEw X A Wx a ta) (hb : PEw X A Wx b tb) : PEw X A Wx (.IfExp c a b pos) (fun σ H Q E => tt σ H (fun k H1 => if k = true then ta σ H1 Q E else tb σ H1 Q E) E) :=
  peW (pe_ifExp hc ha hb) fun σ H Q ⟨σW, HW, q, ee, rs, rh, h, n, xr⟩ => ⟨σW, HW, _, ee, rs, rh, h, fun k HW1 H1 t1 rh1 h1 => by
    cases k with
    | true => exact ⟨σW, HW1, q, ee, rs.mono t1, rh1, h1, n.later t1, xr.later t1⟩
    | false => exact ⟨σW, HW1, q, ee, rs.mono t1, rh1, h1, n.later t1, xr.later t1⟩, xr⟩
theorem ptw_not (ha : PTw X A Wx a tt) : PTw X A Wx (.UnaryOp .Not a pos) (fun σ H Q E => tt σ H (fun b H1 => Q (!b) H1) E) :=
  ptW (pt_not ha) fun σ H Q ⟨σW, HW, q, ee, rs, rh, h, n, xr⟩ => ⟨σW, HW, _, ee, rs, rh, h, fun k HW1 H1 t1 rh1 h1 => n _ _ _ t1 rh1 h1, xr⟩
theorem ptw_tru (ha : PEw X A Wx a ta) (he : ∀ whole, isTrue a X.env whole = (do let v ← whole; standAt a.pos; holding [v] (truthy v))) : PTw X A Wx a (fun σ H Q E => ta σ H (fun w H1 => match truW H1 w with
    | some b => Q b H1
    | none => False) E) :=
  ptW (pt_truth ha he) fun σ H Q ⟨σW, HW, q, ee, rs, rh, h, n, xr⟩ => ⟨σW, HW, _, ee, rs, rh, h, fun x HW1 v H1 t1 rx rh1 h1 => by
    dsimp only at h1
    cases e1 : truW HW1 x with
    | none => rw [e1] at h1; exact h1.elim
    | some b => rw [e1] at h1; exact ⟨b, tru_okW rx rh1 e1, n _ _ _ t1 rh1 h1⟩, xr⟩
/-- and, or as tests: whatever the whole is -/
abbrev PWw (X : Cx) (A : Ad) (Wx : WX) (e : Expr) (t : TTW) : Prop := PW X e (canT (om X A) Wx t)
theorem pww_and {rest : List Expr} (ha : PTw X A Wx a tt) (hb : PWw X A Wx (.BoolOp .And (b :: rest) pos) tu) : PWw X A Wx (.BoolOp .And (a :: b :: rest) pos) (fun σ H Q E => tt σ H (fun k H1 => if k = true then tu σ H1 Q E else Q false H1) E) :=
  pwW (pw_and ha hb) fun σ H Q ⟨σW, HW, q, ee, rs, rh, h, n, xr⟩ => ⟨σW, HW, _, ee, rs, rh, h, fun k HW1 H1 t1 rh1 h1 => by
    cases k with
    | true => exact ⟨σW, HW1, q, ee, rs.mono t1, rh1, h1, fun b HW2 H2 t2 => n b HW2 H2 (t1.trans t2), xr.later t1⟩
    | false => exact n _ _ _ t1 rh1 h1, xr⟩
theorem pww_or {rest : List Expr} (ha : PTw X A Wx a tt) (hb : PWw X A Wx (.BoolOp .Or (b :: rest) pos) tu) : PWw X A Wx (.BoolOp .Or (a :: b :: rest) pos) (fun σ H Q E => tt σ H (fun k H1 => if k = true then Q true H1 else tu σ H1 Q E) E) :=
  pwW (pw_or ha hb) fun σ H Q ⟨σW, HW, q, ee, rs, rh, h, n, xr⟩ => ⟨σW, HW, _, ee, rs, rh, h, fun k HW1 H1 t1 rh1 h1 => by
    cases k with
    | false => exact ⟨σW, HW1, q, ee, rs.mono t1, rh1, h1, fun b HW2 H2 t2 => n b HW2 H2 (t1.trans t2), xr.later t1⟩
    | true => exact n _ _ _ t1 rh1 h1, xr⟩
/-! ### arguments -/
theorem paw_nil : PAw X A Wx [] (fun _ H Q _ => Q [] H) := paW pa_nil fun σ H Q ⟨σW, HW, q, ee, rs, rh, h, n, xr⟩ => n _ _ _ _ TLe.refl .nil rh h
theorem paw_cons (ha : PEw X A Wx e te) (hr : PAw X A Wx es ts) (hs : starEach (e :: es) X.env = (false, eval e X.env) :: starEach es X.env) : PAw X A Wx (e :: es) (fun σ H Q E => te σ H (fun x H1 => ts σ H1 (fun xs H2 => Q (x :: xs) H2) E) E) :=
  paW (pa_cons ha hr hs) fun σ H Q ⟨σW, HW, q, ee, rs, rh, h, n, xr⟩ => ⟨σW, HW, _, ee, rs, rh, h, fun x HW1 v H1 t1 rx rh1 h1 => ⟨σW, HW1, _, ee, rs.mono t1, rh1, h1, fun ws HW2 vs H2 t2 rws rh2 h2 =>
    n _ _ _ _ (t1.trans t2) (.cons (rx.mono t2) rws) rh2 h2, xr.later t1⟩, xr⟩
theorem pew_tup {k} (ha : PAw X A Wx es ts) : PEw X A Wx (.Tuple es k pos) (fun σ H Q E => ts σ H (fun ws H1 => ws.length ≤ sizeLine ∧ Q (.tup ws) H1) E) :=
  peW (pe_tup ha) fun σ H Q ⟨σW, HW, q, ee, rs, rh, h, n, xr⟩ => ⟨σW, HW, _, ee, rs, rh, h, fun ws HW1 vs H1 t1 rws rh1 h1 => ⟨by rw [← rws.length]; exact h1.1, fun p hp => by
    have t := TLe.new (Ω := om X A) (o := HO.tup vs) hp
    exact n _ _ _ _ (t1.trans t) (.tup (SqT.of upd_same) (rws.mono t)) (rh1.new0 hp) h1.2⟩, xr⟩
theorem pew_lst (ha : PAw X A Wx es ts) : PEw X A Wx (.List es pos) (fun σ H Q E => ts σ H (fun ws H1 => ws.length ≤ sizeLine ∧ ∀ p, H1 p = none → Q (.ref p) (updW H1 p (.lst ws))) E) :=
  peW (pe_lst ha) fun σ H Q ⟨σW, HW, q, ee, rs, rh, h, n, xr⟩ => ⟨σW, HW, _, ee, rs, rh, h, fun ws HW1 vs H1 t1 rws rh1 h1 => ⟨by rw [← rws.length]; exact h1.1, fun p hp =>
    n _ _ _ _ (t1.trans (TLe.new hp)) .ref (rh1.newL hp rws) (h1.2 p (rh1.free hp))⟩, xr⟩
theorem pew_idx (hu : X.A.units + 1 < cLine) (ha : PEw X A Wx a ta) (hb : PEw X A Wx b tb) (hs : PlainIx b) : PEw X A Wx (.Subscript a b pos) (fun σ H Q E => ta σ H (fun x H1 => tb σ H1 (fun y H2 => idxW x y H2 Q) E) E) :=
  peW (pe_ix (ix_any hu) ha hb hs) fun σ H Q ⟨σW, HW, q, ee, rs, rh, h, n, xr⟩ => ⟨σW, HW, _, ee, rs, rh, h, fun x HW1 v H1 t1 rx rh1 h1 => ⟨σW, HW1, _, ee, rs.mono t1, rh1, h1, fun y HW2 u H2 t2 ry rh2 h2 =>
    ⟨x, y, HW2, q, rx.mono t2, ry, rh2, h2, n.later (t1.trans t2)⟩, xr.later t1⟩, xr⟩
theorem pew_blt {f : Str} {p : Pos} {bt : Blt} (hc : X.calm = true) (hd : DigK X.K) (hg : Gl X f) (hm : X.mg f = none) (hv : bootBuiltins f = some bt.val) (ha : PAw X A Wx (e :: es) ts) (hn : f ≠ "__name__") (hdb : (f == ("__debug__" : Str)) = false)
    (he : starEach (e :: es) X.env = (false, eval e X.env) :: starEach es X.env) (hpl : (backTo pos (starEach es X.env)).any (·.1) = false) :
    PEw X A Wx (.Call (.Name f p) (e :: es) [] pos) (fun σ H Q E => ts σ H (fun ws H1 => bltW bt ws H1 Q) E) := by
  have key : PE X (.Call (.Name f p) (e :: es) [] pos) (tCB (canC (om X A) (bltW bt)) (canA (om X A) Wx ts)) := by
    have cr : CallR X bt.val (canC (om X A) (bltW bt)) := cr_blt hc hd bt
    revert cr hv
    cases bt <;> intro hv cr <;> first
      | exact pe_callB cr hg hm hv ha hn hdb he hpl
      | exact pe_callTy cr hg hm hv ha hn hdb he hpl
  exact peW key fun σ H Q ⟨σW, HW, q, ee, rs, rh, h, n, xr⟩ => ⟨σW, HW, _, ee, rs, rh, h, fun ws HW1 vs H1 t1 rws rh1 h1 => ⟨ws, HW1, q, rws, rh1, h1, n.later t1⟩, xr⟩
theorem pew_fmt (ha : PEw X A Wx a ta) : PEw X A Wx (.FormattedValue a (-1) none pos) (fun σ H Q E => ta σ H (fun x H1 => match x with
    | .str y => y.length ≤ sizeLine ∧ Q (.str y) H1
    | .int i => i.natAbs.log2 < 1920 ∧ Q (.str (toString i)) H1
    | _ => False) E) :=
  peW (pe_fmt ha) fun σ H Q ⟨σW, HW, q, ee, rs, rh, h, n, xr⟩ => ⟨σW, HW, _, ee, rs, rh, h, fun x HW1 v H1 t1 rx rh1 h1 => by
    cases x <;> first | (exact False.elim h1; done) | skip
    · obtain rfl := rx.i_int
      exact .inr ⟨_, rfl, h1.1, (n.later t1).here .str rh1 h1.2⟩
    · obtain rfl := rx.i_str
      exact .inl ⟨_, rfl, h1.1, (n.later t1).here .str rh1 h1.2⟩, xr⟩
end
end Uw

namespace Uw
open PySem PySem.Spec PyProof.Rows L2

def spW (Ω : Gd) (c : List W → HpW → QW → EW → Prop) : Sp := fun vs H Q E => ∃ ws HW q e, RelWs Ω H ws vs ∧ RelH Ω HW H ∧ c ws HW q e ∧ Nrm Ω H q Q ∧ Xrm Ω H e E
/-- how a def takes its arguments -/
def ShOk (Ω : Gd) (fd : FuncData) (fi : FnI) (n : Nat) (ks : List Str) : Prop :=
  ∀ (s : Shared) (us zs : List Value), Ω.K.In s.heap → us.length = n → zs.length = ks.length → ∃ all : List Value, BindsTo s fd ⟨us, ks.zip zs⟩ (fi.ps.zip all) ∧
    ∀ (H : Hp) (ws ws' : List W) (vs vs' : List V) (r : List W), Vals vs us → Vals vs' zs → RelWs Ω H ws vs → RelWs Ω H ws' vs' → bindW fi.ps fi.dfl ks ws ws' = some r → ∃ vr, Vals vr all ∧ RelWs Ω H r vr
/-- what the written part says of the class -/
structure XcOk (K : PySem.W.Frag) (C : Addr) (B newId initId : String) (tl : List Value) : Prop where
  fb : ExcBaseFacts B newId initId tl
  sf : StoreFacts B tl "object.__setattr__" "object"
  kx : PySem.W.KxsFacts B initId
  ini : PySem.W.excInitIn K C tl newId = true
  ovr : PySem.W.excOver K C tl = true
  hd : PySem.W.hasDictIn K C = true
  sa : PySem.W.findIn K (.ref C) "__setattr__" = some (some (.builtin "object.__setattr__"))
  exC : PySem.W.subIn K (.ref C) (.type "BaseException") = some true
  exB : PySem.W.subIn K (.ref C) (.type B) = some true
  tyC : PySem.W.typeIn K (.ref C) = some (.type "type")
  kC : PySem.W.keepIn K (.ref C) = true
/-- what its class says -/
structure XfOk (K : PySem.W.Frag) (C : Addr) : Prop where
  ga : PySem.W.findIn K (.ref C) "__getattribute__" = some (some (.builtin "BaseException.__getattribute__"))
  gg : PySem.W.findIn K (.ref C) "__getattr__" = some none
  exC : PySem.W.subIn K (.ref C) (.type "BaseException") = some true
  hdC : PySem.W.hasDictIn K C = true
  ha : PySem.W.findIn K (.ref C) "__class__" = some (some (.builtin "object.__class__"))
  hn : PySem.W.specialIn K (.builtin "object.__class__") "__get__" = some (some (.builtin "getset_descriptor.__get__"))
  ht : PySem.W.takesIn K (.builtin "object.__class__") = some true
  hm : PySem.W.mroIn K C (.type "object") = some true
abbrev leTail : List Value := [.type "LookupError", .type "Exception", .type "BaseException", .type "object"]
/-- an own exception class -/
structure ExOk (K : PySem.W.Frag) (mg : Str → Option Value) (A : Ad) (c : Str) (xi : ExI) : Prop where
  gl : mg c = some (.ref (A.ca c))
  kp : PySem.W.keepIn K (.ref (A.ca c)) = true
  sub : PySem.W.subIn K (.ref (A.ca c)) (.type "BaseException") = some true
  ty : PySem.W.typeIn K (.ref (A.ca c)) = some (.type "type")
  plain : xi.init = none → (xi.base = "ValueError" ∧ PySem.W.excIn K (A.ca c) PySem.HandSPX.veTail "ValueError.__new__" = true) ∨ (xi.base = "LookupError" ∧ PySem.W.excIn K (A.ca c) leTail "LookupError.__new__" = true)
  xf : XfOk K (A.ca c)
  fld : ∀ f ∈ xi.fl.map (·.1), PySem.W.findIn K (.ref (A.ca c)) f = some none
  own : ∀ k, xi.init = some k → xi.fl ≠ [] → (∃ B newId initId tl, XcOk K (A.ca c) B newId initId tl ∧ PySem.W.ks_superIn K (A.ca c) (A.ca xi.dc) "__init__" = some (some (.builtin initId)) ∧ PySem.W.mroIn K (A.ca c) (.ref (A.ca xi.dc)) = some true) ∧ PySem.W.findIn K (.ref (A.ca c)) "__init__" = some (some (.ref (A.fa k))) ∧ PySem.W.typeIn K (.ref (A.fa k)) = some (.type "function")
/-- what a class with operators of its own must have -/
structure OprOk (K : PySem.W.Frag) (C : Addr) : Prop where
  sf : PySem.W.selfFirst K C = true
  si : PySem.W.subIn K (.ref C) (.type "int") = some false
  so : PySem.W.subIn K (.ref C) (.type "object") = some true
  ne : PySem.W.findIn K (.ref C) "__ne__" = some (some (.builtin "object.__ne__"))
  rr : ∀ r ∈ (["__radd__", "__rmul__", "__rpow__", "__ror__"] : List Str), ∃ rc, PySem.W.findIn K (.ref C) r = some rc ∧ (rc = none ∨ ∃ g : Addr, rc = some (.ref g))
/-- what the written part says of the program -/
structure GF (w : World) (K : PySem.W.Frag) (mg : Str → Option Value) (A : Ad) (G : GT) : Prop where
  dig : DigK K
  keep : ∀ k fi, G.fn k = some fi → PySem.W.keepIn K (.ref (A.fa k)) = true
  shp : ∀ k fi, G.fn k = some fi → ∀ n ks, (n, ks) ∈ fi.sh → ShOk ⟨K, A.fa, A.ca, w.params⟩ (A.fd k) fi n ks
  gl : ∀ k, G.gl k = true → mg k = some (.ref (A.fa k))
  con : ∀ x c, G.con x = some c → ∃ u v, mg x = some u ∧ RelV v u ∧ ∀ H, RelW ⟨K, A.fa, A.ca, w.params⟩ H c v
  cgl : ∀ c ci, G.cl c = some ci → mg c = some (.ref (A.ca c))
  cls : ∀ c ci, G.cl c = some ci → Cls K (A.ca c) ∧ Mk K (A.ca c) (A.fa ci.init)
  met : ∀ c ci, G.cl c = some ci → ∀ m k, ci.meth.lookup m = some k → Meth K (A.ca c) m (A.fa k)
  fld : ∀ c ci, G.cl c = some ci → ∀ f ∈ ci.flds, NoAttr K (A.ca c) f
  opr : ∀ c ci m k, G.cl c = some ci → ci.meth.lookup m = some k → opNm m = true → OprOk K (A.ca c)
  fre : ∀ x ∈ G.free, mg x = none
  isa : ∀ c ci x b, G.cl c = some ci → G.isa c x = some b → PySem.W.kitOne K (.ref (A.ca c)) ((⟨K, A.fa, A.ca, w.params⟩ : Gd).xv x) = some b
  ins : ∀ c ci, G.cl c = some ci → PySem.W.findIn K (.ref (A.ca c)) "__class__" = some (some (.builtin "object.__class__")) ∧ PySem.W.specialIn K (.builtin "object.__class__") "__get__" = some (some (.builtin "getset_descriptor.__get__")) ∧
    PySem.W.takesIn K (.builtin "object.__class__") = some true ∧ PySem.W.mroIn K (A.ca c) (.type "object") = some true
  exc : ∀ c xi, G.exn c = some xi → ExOk K mg A c xi
  xsa : ∀ c xi x b, G.exn c = some xi → G.isa c x = some b → PySem.W.kitOne K (.ref (A.ca c)) ((⟨K, A.fa, A.ca, w.params⟩ : Gd).xv x) = some b
  exm : ∀ x c b, G.exm x c = some b → PySem.W.exmOne K ((⟨K, A.fa, A.ca, w.params⟩ : Gd).xv x) ((⟨K, A.fa, A.ca, w.params⟩ : Gd).xv c) = some b
/-- every def keeps what its text does, by n levels -/
def FnsOk (P : Program) (w : World) (K : PySem.W.Frag) (mg : Str → Option Value) (base : Heap) (A : Ad) (G : GT) (n : Nat) (c : CallW) : Prop :=
  ∀ k fi, G.fn k = some fi → FnOk P w K mg base (L2.CX P w) n (A.fa k) (A.fd k) fi.ps (spW ⟨K, A.fa, A.ca, w.params⟩ (c k))

/-- what came, held for later -/
def stop (Ω : Gd) (H : Hp) (q : QW) : VK := fun v H1 => ∃ x HW1, TLe Ω H H1 ∧ RelW Ω H1 x v ∧ RelH Ω HW1 H1 ∧ q x HW1
theorem nrm_stop {Ω : Gd} {H : Hp} {q : QW} : Nrm Ω H q (stop Ω H q) := fun w HW' v H' t r rh z => ⟨w, HW', t, r, rh, z⟩
def stopA (Ω : Gd) (H : Hp) (q : List W → HpW → Prop) : List V → Hp → Prop := fun vs H1 => ∃ ws HW1, TLe Ω H H1 ∧ RelWs Ω H1 ws vs ∧ RelH Ω HW1 H1 ∧ q ws HW1
section
variable {X : Cx} {A : Ad} {Wx : WX} {G : GT} {n : Nat} {c : CallW}
variable {a b e o : Expr} {es : List Expr} {ta tb te : TEW} {ts tz : TAW} {pos p apos : Pos}
theorem xe_of {pins : List (Addr × Obj)} {σ : L2.St} {H : Hp} {s s' : Shared} {u : Value} {E : XK} (tk : Takes X Wx) (I : Inv X pins σ H s) (hE : ∀ cl d H', E cl d H' → Wx cl d σ H') (h : L2.CX X.prog X.w X.stack H s E u s') : X.xe u s' :=
  tk u s' (XE.of_call I hE h)
theorem FnI.bind_eq {fi : FnI} {ks : List Str} {ws zs r : List W} (h : fi.bind ks ws zs = some r) : (ws.length, ks) ∈ fi.sh ∧ zs.length = ks.length ∧ bindW fi.ps fi.dfl ks ws zs = some r := by
  unfold FnI.bind at h
  split at h
  · rename_i hc; exact ⟨hc.1, hc.2, h⟩
  · cases h
/-- a def is called -/
theorem run_w {k : Str} {fi : FnI} {pins : List (Addr × Obj)} {σ : L2.St} {H : Hp} {s : Shared} {Q : VK} {us zs : List Value} {vs vs' : List V} {ws ws' r : List W} {ks : List Str} {HW : HpW} {q : QW} {ee : EW}
    (gf : GF X.w X.K X.mg A G) (F : FnsOk X.prog X.w X.K X.mg X.base A G n c) (hf : G.fn k = some fi) (hr : Room n X.A) (tk : Takes X Wx) (I : Inv X pins σ H s) (rv : Vals vs us) (rz : Vals vs' zs) (rw1 : RelWs (om X A) H ws vs) (rw2 : RelWs (om X A) H ws' vs')
    (hb : fi.bind ks ws ws' = some r) (rh : RelH (om X A) HW H) (h : c k r HW q ee) (nn : Nrm (om X A) H q Q) (xr : Xrm (om X A) H ee (fun cl d H' => Wx cl d σ H')) :
    wpAny (model X.prog X.w) X.A (call (.ref (A.fa k)) us (ks.zip zs)) (EP X pins σ Q) X.xe s := by
  obtain ⟨hs, hl, hb⟩ := FnI.bind_eq hb
  obtain ⟨all, bt, rel⟩ := gf.shp k fi hf _ _ hs s us zs I.kIn (by rw [← rv.length, ← rw1.length]) (by rw [← rz.length, ← rw2.length]; exact hl)
  obtain ⟨vr, r1, r2⟩ := rel H ws ws' vs vs' r rv rz rw1 rw2 hb
  refine wpAny_call (codeAny_mono ((F k fi hf).run X.A X.stack s H ⟨us, ks.zip zs⟩ all vr Q (fun cl d H' => Wx cl d σ H') hr I.env0 bt r1 ⟨r, HW, q, ee, r2, rh, h, nn, xr⟩) fun r s' hq => ?_)
  cases r with
  | error e => exact xe_of tk I (fun _ _ _ z => z) hq
  | ok fl =>
    cases fl with
    | ret u => exact I.after hq
    | next => exact False.elim hq
    | brk => exact False.elim hq
    | cont => exact False.elim hq
theorem pew_call {k : Str} {fi : FnI} (ef : G.fn k = some fi) (gf : GF X.w X.K X.mg A G) (F : FnsOk X.prog X.w X.K X.mg X.base A G n c) (hr : Room n X.A) (tk : Takes X Wx) (hg : Gl X k) (hgl : G.gl k = true) (ha : PAw X A Wx (e :: es) ts) (hdb : (k == ("__debug__" : Str)) = false)
    (he : starEach (e :: es) X.env = (false, eval e X.env) :: starEach es X.env) (hpl : (backTo pos (starEach es X.env)).any (·.1) = false) :
    PEw X A Wx (.Call (.Name k p) (e :: es) [] pos) (fun σ H Q E => ts σ H (fun ws H1 => match G.fn k with
      | some fi => (match fi.bind [] ws [] with
        | some zs => c k zs H1 Q E
        | none => False)
      | none => False) E) := by
  refine ⟨fun pins s σ H Q I ⟨σW, HW, q, ee, rs, rh, h, nn, xr⟩ => ?_⟩
  refine wpAny_Call_Name_kw (ld_glob I hg (gf.gl k hgl) ?_ hdb)
  refine PySem.W.callWith_K (h₀ := X.base) I.ok.mod.kin (gf.keep k fi ef) (thn (ha.run pos pins s σ H _ I ⟨σW, HW, _, ee, rs, rh, h, fun ws HW1 vs H1 t r rh1 z => (⟨ws, HW1, t, r, rh1, z⟩ : stopA (om X A) H _ vs H1), xr⟩) fun us s1 ⟨vs, H1, I1, r, ws, HW1, t, rw1, rh1, q1⟩ => ⟨I1.kIn, ?_⟩) he hpl
  simp only [ef] at q1
  cases eb : fi.bind [] ws [] with
  | none => rw [eb] at q1; exact q1.elim
  | some zs =>
    rw [eb] at q1
    exact run_w (zs := []) (vs' := []) (ws' := []) (ks := []) gf F ef hr tk I1 r .nil rw1 .nil eb rh1 q1 (nn.later t) (xr.later t)
theorem pew_call0 {k : Str} {fi : FnI} (ef : G.fn k = some fi) (gf : GF X.w X.K X.mg A G) (F : FnsOk X.prog X.w X.K X.mg X.base A G n c) (hr : Room n X.A) (tk : Takes X Wx) (hg : Gl X k) (hgl : G.gl k = true) (hdb : (k == ("__debug__" : Str)) = false) :
    PEw X A Wx (.Call (.Name k p) [] [] pos) (fun σ H Q E => match G.fn k with
      | some fi => (match fi.bind [] [] [] with
        | some zs => c k zs H Q E
        | none => False)
      | none => False) := by
  refine ⟨fun pins s σ H Q I ⟨σW, HW, q, ee, rs, rh, h, nn, xr⟩ => ?_⟩
  refine wpAny_Call_Name_kw (ld_glob I hg (gf.gl k hgl) ?_ hdb)
  refine PySem.W.callWith_K0 I.kIn (gf.keep k fi ef) ?_
  simp only [ef] at h
  cases eb : fi.bind [] [] [] with
  | none => rw [eb] at h; exact h.elim
  | some zs =>
    rw [eb] at h
    exact run_w (us := []) (vs := []) (ws := []) (zs := []) (vs' := []) (ws' := []) (ks := []) gf F ef hr tk I .nil .nil .nil .nil eb rh h nn xr
/-- the tree of a method's call -/
theorem meth_eq {env : Env} {m : Str} {args : List Expr} (hbase : attributeBase o m env (eval o env) = eval o env) (hform : methodCallForm (args.length + 0) (backTo pos (starEach args env)) [] = true) (hline : (apos.endLine == pos.line) = true) :
    eval (.Call (.Attribute o m apos) args [] pos) env = (do
      let ov ← eval o env
      standAt apos.atName
      let (f, first) ← holding [ov] (getMethod ov m (do return (← importBound o env).getD true))
      callWith pos f first (backTo pos (starEach args env)) (backToKw pos (keywordEach [] env))) := by
  have hk : backToKw pos (keywordEach [] env) = [] := rfl
  have hpos : methodCallPos true o env apos pos = pure pos := by unfold methodCallPos; simp [hline]
  rw [arm_eval_Call, hbase]
  unfold methodCall
  rw [hk]
  simp only [List.length_nil, hform, calleeOf, if_true, hpos, pure_bind]
theorem pew_meth {m : Str} (gf : GF X.w X.K X.mg A G) (F : FnsOk X.prog X.w X.K X.mg X.base A G n c) (hr : Room n X.A) (tk : Takes X Wx) (ho : PEw X A Wx o ta) (ha : PAw X A Wx es ts)
    (hne : es = [] → ∀ σ H Q E, ts σ H Q E → Q [] H) (hse : ∀ e r, es = e :: r → starEach (e :: r) X.env = (false, eval e X.env) :: starEach r X.env ∧ (backTo pos (starEach r X.env)).any (·.1) = false)
    (hbase : attributeBase o m X.env (eval o X.env) = eval o X.env) (hform : methodCallForm (es.length + 0) (backTo pos (starEach es X.env)) [] = true) (hline : (apos.endLine == pos.line) = true) :
    PEw X A Wx (.Call (.Attribute o m apos) es [] pos) (fun σ H Q E => ta σ H (fun x H1 => match x with
    | .ref p => (match H1 p with
      | some (.ins c' fs) => fs.lookup m = none ∧ (match G.cl c' with
        | some ci => (match ci.meth.lookup m with
          | some k => (match G.fn k with
            | some fi => ts σ H1 (fun ws H2 => match fi.bind [] (.ref p :: ws) [] with
              | some zs => c k zs H2 Q E
              | none => False) E
            | none => False)
          | none => False)
        | none => False)
      | _ => False)
    | _ => False) E) := by
  refine ⟨fun pins s σ H Q I ⟨σW, HW, q, ee, rs, rh, h, nn, xr⟩ => ?_⟩
  refine PySem.W.methodCall_KW (thn (ho.run pins s σ H _ I ⟨σW, HW, _, ee, rs, rh, h, nrm_stop, xr⟩) fun u s1 ⟨v, H1, I1, rv, x, HW1, t1, rx, rh1, q1⟩ => ?_) (meth_eq hbase hform hline)
  cases x <;> first | (exact False.elim q1; done) | skip
  rename_i p
  obtain rfl := rx.i_ref
  obtain rfl : u = Value.ref p := rv
  dsimp only at q1
  cases ep : HW1 p with
  | none => rw [ep] at q1; exact q1.elim
  | some ob =>
    rw [ep] at q1
    cases ob <;> first | (exact False.elim q1; done) | skip
    rename_i c' fs
    obtain ⟨hl, q1⟩ := q1
    obtain ⟨dx, xs, ex, rf⟩ := rh1 _ _ ep
    cases ec : G.cl c' with
    | none => rw [ec] at q1; exact q1.elim
    | some ci =>
      rw [ec] at q1
      dsimp only at q1
      cases em : ci.meth.lookup m with
      | none => rw [em] at q1; exact q1.elim
      | some k =>
        rw [em] at q1
        dsimp only at q1
        cases ef : G.fn k with
        | none => rw [ef] at q1; exact q1.elim
        | some fi =>
          rw [ef] at q1
          dsimp only at q1
          have me := gf.met c' ci ec m k em
          have ln : xs.lookup m = none := by
            have : ∀ {l : List (Str × W)} {s : List (Str × V)}, RelKs (om X A) H1 l s → l.lookup m = none → s.lookup m = none := by
              intro l
              induction l with
              | nil => intro s r _; rw [show s = [] from r]; rfl
              | cons y l ih =>
                obtain ⟨k', w⟩ := y
                rintro s ⟨v, q, rfl, _, r⟩ e
                rw [List.lookup_cons] at e ⊢
                cases hb : (m == k') with
                | true => rw [hb] at e; cases e
                | false => rw [hb] at e; exact ih r e
            exact this rf hl
          refine getmeth_ok I1 ex (gf.cls c' ci ec).1 me ln ?_
          have run : ∀ {us : List Value} {vs : List V} {ws : List W} {H2 : Hp} {HW2 : HpW} {s2 : Shared}, Inv X pins σ H2 s2 → TLe (om X A) H1 H2 → Vals vs us → RelWs (om X A) H2 ws vs → RelH (om X A) HW2 H2 → (match fi.bind [] (.ref p :: ws) [] with
              | some zs => c k zs HW2 q ee
              | none => False) → wpAny (model X.prog X.w) X.A (call (.ref (A.fa k)) ([.ref p] ++ us)) (EP X pins σ Q) X.xe s2 := by
            intro us vs ws H2 HW2 s2 I2 t2 r rw1 rh2 q2
            cases eb : fi.bind [] (.ref p :: ws) [] with
            | none => rw [eb] at q2; exact q2.elim
            | some zs =>
              rw [eb] at q2
              exact run_w (us := .ref p :: us) (vs := .ref p :: vs) (ws := .ref p :: ws) (zs := []) (vs' := []) (ws' := []) (ks := []) gf F ef hr tk I2 (.cons rfl r) .nil (.cons .ref rw1) .nil eb rh2 q2 (nn.later (t1.trans t2)) (xr.later (t1.trans t2))
          cases hes : es with
          | nil =>
            refine PySem.W.callWith_K0 (first := [.ref p]) I1.kIn me.kp ?_
            exact run (us := []) (vs := []) (ws := []) I1 TLe.refl .nil .nil rh1 (hne hes σW HW1 _ ee q1)
          | cons e r0 =>
            subst hes
            obtain ⟨h1, h2⟩ := hse e r0 rfl
            refine PySem.W.callWith_K (first := [.ref p]) (h₀ := X.base) I1.ok.mod.kin me.kp (thn (ha.run pos pins s1 σ H1 _ I1 ⟨σW, HW1, _, ee, rs.mono t1, rh1, q1, fun ws HW2 vs H2 t r rh1 z => (⟨ws, HW2, t, r, rh1, z⟩ : stopA (om X A) H1 _ vs H2), xr.later t1⟩) fun us s2 ⟨vs, H2, I2, r, ws, HW2, t2, rw1, rh2, q2⟩ => ⟨I2.kIn, ?_⟩) h1 h2
            exact run I2 t2 r rw1 rh2 q2
theorem RelKs.look {Ω : Gd} {H : Hp} {f : Str} {w : W} : ∀ {l : List (Str × W)} {s : List (Str × V)}, RelKs Ω H l s → l.lookup f = some w → ∃ v, s.lookup f = some v ∧ RelW Ω H w v
  | [], s, r, e => by cases e
  | (k', w') :: l, _, ⟨v, q, rfl, a, r⟩, e => by
    rw [List.lookup_cons] at e ⊢
    cases hb : (f == k') with
    | true => rw [hb] at e; cases e; exact ⟨v, rfl, a⟩
    | false => rw [hb] at e; exact RelKs.look r e
theorem pew_att {f : Str} (gf : GF X.w X.K X.mg A G) (ho : PEw X A Wx o ta) (hbase : attributeBase o f X.env (eval o X.env) = eval o X.env) : PEw X A Wx (.Attribute o f pos) (fun σ H Q E => ta σ H (fun x H1 => match x with
    | .ref p => (match H1 p with
      | some (.ins c fs) => (match G.cl c with
        | some ci => f ∈ ci.flds ∧ (match fs.lookup f with
          | some w => Q w H1
          | none => False)
        | none => False)
      | _ => False)
    | _ => False) E) :=
  peW (pe_fld ho hbase) fun σ H Q ⟨σW, HW, q, ee, rs, rh, h, nn, xr⟩ => ⟨σW, HW, _, ee, rs, rh, h, fun x HW1 v H1 t1 rx rh1 q1 => by
    cases x <;> first | (exact False.elim q1; done) | skip
    rename_i p
    obtain rfl := rx.i_ref
    dsimp only at q1
    cases ep : HW1 p with
    | none => rw [ep] at q1; exact q1.elim
    | some ob =>
      rw [ep] at q1
      cases ob <;> first | (exact False.elim q1; done) | skip
      rename_i c' fs
      dsimp only at q1
      obtain ⟨dx, xs, ex, rf⟩ := rh1 _ _ ep
      cases ec : G.cl c' with
      | none => rw [ec] at q1; exact q1.elim
      | some ci =>
        rw [ec] at q1
        obtain ⟨hf, q1⟩ := q1
        cases el : fs.lookup f with
        | none => rw [el] at q1; exact q1.elim
        | some w =>
          rw [el] at q1
          obtain ⟨z, e1, e2⟩ := rf.look el
          exact ⟨p, _, dx, xs, z, rfl, ex, (gf.cls c' ci ec).1, gf.fld c' ci ec f hf, e1, (nn.later t1).here e2 rh1 q1⟩, xr⟩
end
end Uw

namespace Uw
open PySem PySem.Spec PyProof.Rows L2
section
variable {X : Cx} {A : Ad} {Wx : WX} {G : GT} {n : Nat} {c : CallW}
variable {a b e o : Expr} {es : List Expr} {ta tb te : TEW} {ts tz : TAW} {pos p apos : Pos}
/-- a new instance is made -/
theorem run_mk {cn : Str} {ci : ClsI} {fi : FnI} {pins : List (Addr × Obj)} {σ : L2.St} {H : Hp} {s : Shared} {Q : VK} {us zs : List Value} {vs vs' : List V} {ws ws' : List W} {ks : List Str} {HW : HpW} {q : QW} {ee : EW}
    (gf : GF X.w X.K X.mg A G) (F : FnsOk X.prog X.w X.K X.mg X.base A G n c) (ec : G.cl cn = some ci) (hf : G.fn ci.init = some fi) (hr : Room (n + 1) X.A) (tk : Takes X Wx) (I : Inv X pins σ H s) (rv : Vals vs us) (rz : Vals vs' zs) (rw1 : RelWs (om X A) H ws vs) (rw2 : RelWs (om X A) H ws' vs')
    (rh : RelH (om X A) HW H) (h : ∀ x, HW x = none → (match fi.bind ks (.ref x :: ws) ws' with
        | some us => c ci.init us (updW HW x (.ins cn [])) (fun v H3 => v = .non ∧ q (.ref x) H3) ee
        | none => False)) (nn : Nrm (om X A) H q Q) (xr : Xrm (om X A) H ee (fun cl d H' => Wx cl d σ H')) :
    wpAny (model X.prog X.w) X.A (call (.ref (A.ca cn)) us (ks.zip zs)) (EP X pins σ Q) X.xe s := by
  obtain ⟨hcl, M⟩ := gf.cls cn ci ec
  have fx : H (s.heap.objs.size + 1) = none := I.hok.fresh (Nat.le_succ _)
  have fd : H s.heap.objs.size = none := I.hok.fresh (Nat.le_refl _)
  have ne : s.heap.objs.size + 1 ≠ s.heap.objs.size := Nat.succ_ne_self _
  have hq := h (s.heap.objs.size + 1) (rh.free fx)
  cases eb : fi.bind ks (.ref (s.heap.objs.size + 1) :: ws) ws' with
  | none => rw [eb] at hq; exact hq.elim
  | some r =>
    rw [eb] at hq
    dsimp only at hq
    have I2 := Inv.made (C := A.ca cn) I
    have t1 : TLe (om X A) H (upd H s.heap.objs.size (.own (s.heap.objs.size + 1))) := TLe.new fd
    have fx2 : upd H s.heap.objs.size (.own (s.heap.objs.size + 1)) (s.heap.objs.size + 1) = none := by rw [upd_ne ne]; exact fx
    have t2 : TLe (om X A) (upd H s.heap.objs.size (.own (s.heap.objs.size + 1))) (upd (upd H s.heap.objs.size (.own (s.heap.objs.size + 1))) (s.heap.objs.size + 1) (.ins (A.ca cn) s.heap.objs.size [])) := TLe.new fx2
    have t := t1.trans t2
    have rh2 : RelH (om X A) (updW HW (s.heap.objs.size + 1) (.ins cn [])) (upd (upd H s.heap.objs.size (.own (s.heap.objs.size + 1))) (s.heap.objs.size + 1) (.ins (A.ca cn) s.heap.objs.size [])) :=
      (rh.new0 fd).new fx2 (show ∃ dx xs, _ ∧ _ from ⟨_, _, upd_same, rfl⟩)
    have r1 : Vals (V.ref (s.heap.objs.size + 1) :: vs) (Value.ref (s.heap.objs.size + 1) :: us) := .cons rfl rv
    have rr1 : RelWs (om X A) (upd (upd H s.heap.objs.size (.own (s.heap.objs.size + 1))) (s.heap.objs.size + 1) (.ins (A.ca cn) s.heap.objs.size [])) (.ref (s.heap.objs.size + 1) :: ws) (V.ref (s.heap.objs.size + 1) :: vs) := .cons .ref (rw1.mono t)
    obtain ⟨hs, hl, hb⟩ := FnI.bind_eq eb
    obtain ⟨all, bt, rel⟩ := gf.shp ci.init fi hf _ _ hs _ (Value.ref (s.heap.objs.size + 1) :: us) zs I2.kIn (by rw [← r1.length, ← rr1.length]) (by rw [← rz.length, ← rw2.length]; exact hl)
    obtain ⟨vr, r3, r4⟩ := rel _ _ ws' _ vs' r r1 rz rr1 (rw2.mono t) hb
    refine wpAny_call (make_map (f := A.fa ci.init) I.kIn M.makes M.init (beq_iff_eq.mp M.fn) (codeAny_mono ((F ci.init fi hf).run _ X.stack _ _ ⟨Value.ref (s.heap.objs.size + 1) :: us, ks.zip zs⟩ all vr (fun v H2 => v = .non ∧ Q (.ref (s.heap.objs.size + 1)) H2) (fun cl d H' => Wx cl d σ H') (hr.make _ us (ks.zip zs))
      (I2.env0.make _ us (ks.zip zs)) bt r3 ⟨r, _, _, ee, r4, rh2, hq, fun w HW' v H' t' rw' rh' z => ?_, xr.later t⟩) fun r s' hq' => ?_))
    · obtain ⟨e1, e2⟩ := z
      subst e1
      exact ⟨rw'.i_non, nn _ _ _ _ (t.trans t') .ref rh' e2⟩
    · cases r with
      | error e => exact xe_of tk I2 (fun _ _ _ z => z) hq'
      | ok fl =>
        cases fl with
        | ret u =>
          obtain ⟨v, H', I3, rv', ev, q3⟩ := I2.after hq'
          subst ev
          exact ⟨rv', ⟨V.ref (s.heap.objs.size + 1), H', I3, rfl, q3⟩⟩
        | next => exact False.elim hq'
        | brk => exact False.elim hq'
        | cont => exact False.elim hq'
/-- the values of keywords -/
abbrev PKw (X : Cx) (A : Ad) (Wx : WX) (kws : List Keyword) (t : TAW) : Prop := PK X kws (canA (om X A) Wx t)
theorem pkw_nil : PKw X A Wx [] (fun _ H Q _ => Q [] H) := ⟨fun pos pins s σ H Q I ⟨σW, HW, q, ee, rs, rh, h, n, xr⟩ => pk_nil.run pos pins s σ H Q I (n _ _ _ _ TLe.refl .nil rh h)⟩
theorem pkw_bad {kws : List Keyword} : PKw X A Wx kws (fun _ _ _ _ => False) := ⟨fun _ _ _ _ _ _ _ ⟨_, _, _, _, _, _, h, _⟩ => h.elim⟩
theorem pkw_cons {nm : Option Str} {kpos : Pos} {kws : List Keyword} (ha : PEw X A Wx e te) (hr : PKw X A Wx kws ts) : PKw X A Wx (⟨nm, e, kpos⟩ :: kws) (fun σ H Q E => te σ H (fun x H1 => ts σ H1 (fun xs H2 => Q (x :: xs) H2) E) E) :=
  ⟨fun pos pins s σ H Q I ⟨σW, HW, q, ee, rs, rh, h, n, xr⟩ => (pk_cons ha hr).run pos pins s σ H Q I ⟨σW, HW, _, ee, rs, rh, h, fun x HW1 v H1 t1 rx rh1 h1 => ⟨σW, HW1, _, ee, rs.mono t1, rh1, h1, fun ws HW2 vs H2 t2 rws rh2 h2 =>
    n _ _ _ _ (t1.trans t2) (.cons (rx.mono t2) rws) rh2 h2, xr.later t1⟩, xr⟩⟩
theorem pew_callk {k : Str} {fi : FnI} {kws : List Keyword} {ks : List Str} (ef : G.fn k = some fi) (gf : GF X.w X.K X.mg A G) (F : FnsOk X.prog X.w X.K X.mg X.base A G n c) (hr : Room n X.A) (tk : Takes X Wx) (hg : Gl X k) (hgl : G.gl k = true)
    (ha : PAw X A Wx (e :: es) ts) (hkw : PKw X A Wx kws tz) (hall : (backToKw pos (keywordEach kws X.env)).all (·.1.isSome) = true) (hks : (backToKw pos (keywordEach kws X.env)).filterMap (·.1) = ks)
    (hdb : (k == ("__debug__" : Str)) = false) (he : starEach (e :: es) X.env = (false, eval e X.env) :: starEach es X.env)
    (hpl : ((backTo pos (starEach (e :: es) X.env)).any (·.1) || (backToKw pos (keywordEach kws X.env)).any (·.1.isNone)) = false) :
    PEw X A Wx (.Call (.Name k p) (e :: es) kws pos) (fun σ H Q E => ts σ H (fun ws H1 => tz σ H1 (fun us H2 => match G.fn k with
      | some fi => (match fi.bind ks ws us with
        | some zs => c k zs H2 Q E
        | none => False)
      | none => False) E) E) := by
  refine ⟨fun pins s σ H Q I ⟨σW, HW, q, ee, rs, rh, h, nn, xr⟩ => ?_⟩
  refine wpAny_Call_Name_kw (ld_glob I hg (gf.gl k hgl) ?_ hdb)
  refine PySem.W.callWith_KW (h₀ := X.base) I.ok.mod.kin (gf.keep k fi ef) hall (thn (ha.run pos pins s σ H _ I ⟨σW, HW, _, ee, rs, rh, h, fun ws HW1 vs H1 t r rh1 z => (⟨ws, HW1, t, r, rh1, z⟩ : stopA (om X A) H _ vs H1), xr⟩) fun us s1 ⟨vs, H1, I1, r, ws, HW1, t, rw1, rh1, q1⟩ => ?_) hpl he
  refine thn (hkw.run pos pins s1 σ H1 _ I1 ⟨σW, HW1, _, ee, rs.mono t, rh1, q1, fun zs HW2 vs2 H2 t r rh1 z => (⟨zs, HW2, t, r, rh1, z⟩ : stopA (om X A) H1 _ vs2 H2), xr.later t⟩) fun zs s2 ⟨vs2, H2, I2, rz, ws2, HW2, t2, rw2, rh2, q2⟩ => ⟨I2.kIn, ?_⟩
  rw [hks]
  simp only [ef] at q2
  cases eb : fi.bind ks ws ws2 with
  | none => rw [eb] at q2; exact q2.elim
  | some r0 =>
    rw [eb] at q2
    exact run_w gf F ef hr tk I2 r rz (rw1.mono t2) rw2 eb rh2 q2 (nn.later (t.trans t2)) (xr.later (t.trans t2))
theorem pew_mk {cn : Str} {ci : ClsI} {fi : FnI} {kws : List Keyword} {ks : List Str} (gf : GF X.w X.K X.mg A G) (F : FnsOk X.prog X.w X.K X.mg X.base A G n c) (ec : G.cl cn = some ci) (hf : G.fn ci.init = some fi) (hr : Room (n + 1) X.A) (tk : Takes X Wx) (hg : Gl X cn)
    (ha : PAw X A Wx (e :: es) ts) (hkw : PKw X A Wx kws tz) (hall : (backToKw pos (keywordEach kws X.env)).all (·.1.isSome) = true) (hks : (backToKw pos (keywordEach kws X.env)).filterMap (·.1) = ks)
    (hdb : (cn == ("__debug__" : Str)) = false) (he : starEach (e :: es) X.env = (false, eval e X.env) :: starEach es X.env)
    (hpl : ((backTo pos (starEach (e :: es) X.env)).any (·.1) || (backToKw pos (keywordEach kws X.env)).any (·.1.isNone)) = false) :
    PEw X A Wx (.Call (.Name cn p) (e :: es) kws pos) (fun σ H Q E => ts σ H (fun ws H1 => tz σ H1 (fun zs H2 => match G.cl cn with
      | some ci => (match G.fn ci.init with
        | some fi => ∀ x, H2 x = none → (match fi.bind ks (.ref x :: ws) zs with
          | some us => c ci.init us (updW H2 x (.ins cn [])) (fun v H3 => v = .non ∧ Q (.ref x) H3) E
          | none => False)
        | none => False)
      | none => False) E) E) := by
  refine ⟨fun pins s σ H Q I ⟨σW, HW, q, ee, rs, rh, h, nn, xr⟩ => ?_⟩
  refine wpAny_Call_Name_kw (ld_glob I hg (gf.cgl cn ci ec) ?_ hdb)
  refine PySem.W.callWith_KW (h₀ := X.base) I.ok.mod.kin (gf.cls cn ci ec).2.kp hall (thn (ha.run pos pins s σ H _ I ⟨σW, HW, _, ee, rs, rh, h, fun ws HW1 vs H1 t r rh1 z => (⟨ws, HW1, t, r, rh1, z⟩ : stopA (om X A) H _ vs H1), xr⟩) fun us s1 ⟨vs, H1, I1, r, ws, HW1, t, rw1, rh1, q1⟩ => ?_) hpl he
  refine thn (hkw.run pos pins s1 σ H1 _ I1 ⟨σW, HW1, _, ee, rs.mono t, rh1, q1, fun zs HW2 vs2 H2 t r rh1 z => (⟨zs, HW2, t, r, rh1, z⟩ : stopA (om X A) H1 _ vs2 H2), xr.later t⟩) fun zs s2 ⟨vs2, H2, I2, rz, ws2, HW2, t2, rw2, rh2, q2⟩ => ⟨I2.kIn, ?_⟩
  rw [hks]
  simp only [ec, hf] at q2
  exact run_mk gf F ec hf hr tk I2 r rz (rw1.mono t2) rw2 rh2 q2 (nn.later (t.trans t2)) (xr.later (t.trans t2))
theorem pew_mk0 {cn : Str} {ci : ClsI} {fi : FnI} (gf : GF X.w X.K X.mg A G) (F : FnsOk X.prog X.w X.K X.mg X.base A G n c) (ec : G.cl cn = some ci) (hf : G.fn ci.init = some fi) (hr : Room (n + 1) X.A) (tk : Takes X Wx) (hg : Gl X cn)
    (hdb : (cn == ("__debug__" : Str)) = false) :
    PEw X A Wx (.Call (.Name cn p) [] [] pos) (fun σ H Q E => match G.cl cn with
      | some ci => (match G.fn ci.init with
        | some fi => ∀ x, H x = none → (match fi.bind [] [.ref x] [] with
          | some us => c ci.init us (updW H x (.ins cn [])) (fun v H3 => v = .non ∧ Q (.ref x) H3) E
          | none => False)
        | none => False)
      | none => False) := by
  refine ⟨fun pins s σ H Q I ⟨σW, HW, q, ee, rs, rh, h, nn, xr⟩ => ?_⟩
  refine wpAny_Call_Name_kw (ld_glob I hg (gf.cgl cn ci ec) ?_ hdb)
  simp only [ec, hf] at h
  exact PySem.W.callWith_K0 I.kIn (gf.cls cn ci ec).2.kp (run_mk (us := []) (vs := []) (ws := []) (zs := []) (vs' := []) (ws' := []) (ks := []) gf F ec hf hr tk I .nil .nil .nil .nil rh h nn xr)

/-! ### isinstance -/
theorem ty_ok {HW : HpW} {H : Hp} {x : W} {v : V} {t : String} (rx : RelW (om X A) H x v) (rh : RelH (om X A) HW H) (e : tyW HW x = some (.inl t)) : TyX X.K H v (.type t) := by
  cases x with
  | non => obtain rfl := rx.i_non; cases e; exact .base .non
  | bl k => obtain rfl := rx.i_bl; cases e; exact .base (.bl _)
  | int k => obtain rfl := rx.i_int; cases e; exact .base (.int _)
  | str k => obtain rfl := rx.i_str; cases e; exact .base (.str _)
  | tup ws =>
    obtain ⟨a, xs, rfl, sa, ra⟩ := rx.i_tup
    cases e
    rcases sa with (sa | ⟨ob, sa⟩) | ⟨ob, its, k, h1, h2, _⟩
    · exact .base (.tup sa)
    · exact .fTuple sa
    · exact .kTuple h1 h2
  | ref a =>
    obtain rfl := rx.i_ref
    unfold tyW at e
    dsimp only at e
    cases ea : HW a with
    | none => rw [ea] at e; cases e
    | some ob =>
      rw [ea] at e
      cases ob with
      | lst ws =>
        obtain ⟨xs, ex, _⟩ := rh _ _ ea
        cases e; exact .base (.lst ex)
      | dct ws =>
        obtain ⟨xs, ex, _⟩ := rh _ _ ea
        cases e; exact .base (.dK ex)
      | fdc ws => cases e
      | ins k fs => cases e
      | xd fs => cases e
  | ty _ => cases e
  | fn _ => cases e
  | cls _ => cases e
  | scr _ => cases e
  | kdc _ _ => cases e
theorem ty_own {HW : HpW} {x : W} {k : Str} (e : tyW HW x = some (.inr k)) : ∃ a fs, x = .ref a ∧ HW a = some (.ins k fs) := by
  cases x with
  | ref a =>
    unfold tyW at e
    dsimp only at e
    cases ea : HW a with
    | none => rw [ea] at e; cases e
    | some ob =>
      rw [ea] at e
      cases ob with
      | ins k' fs => cases e; exact ⟨a, fs, rfl, ea⟩
      | _ => cases e
  | _ => cases e
theorem isi_ok (gf : GF X.w X.K X.mg A G) {HW : HpW} {H : Hp} {x : W} {v : V} {cx : XC} {b : Bool} (rx : RelW (om X A) H x v) (rh : RelH (om X A) HW H) (e : isiW G HW x cx = some b) : ∃ t, TyX X.K H v t ∧ PySem.W.kitOne X.K t ((om X A).xv cx) = some b := by
  unfold isiW at e
  cases et : tyW HW x with
  | none => rw [et] at e; cases e
  | some tt =>
    rw [et] at e
    cases tt with
    | inl t =>
      cases cx with
      | own _ => cases e
      | blt m => exact ⟨_, ty_ok rx rh et, kit_ty e⟩
    | inr k =>
      obtain ⟨a, fs, rfl, ea⟩ := ty_own et
      obtain rfl := rx.i_ref
      obtain ⟨dx, xs, ex, _⟩ := rh _ _ ea
      dsimp only at e
      cases ek : G.cl k with
      | none => rw [ek] at e; cases e
      | some ci =>
        rw [ek] at e
        obtain ⟨h1, h2, h3, h4⟩ := gf.ins k ci ek
        exact ⟨_, .base (.ins ex (gf.cls k ci ek).1 h1 h2 h3 h4), gf.isa k ci cx b ek e⟩
/-- the class that is named -/
def XcV (X : Cx) (A : Ad) (cx : XC) (x : Str) : Prop := Gl X x ∧ (x == ("__debug__" : Str)) = false ∧ match cx with
  | .own cn => X.mg x = some (.ref (A.ca cn))
  | .blt m => X.mg x = none ∧ bootBuiltins x = some (.type m) ∧ x ≠ "__name__"
theorem pew_isi {x : Str} {p1 p2 : Pos} {cx : XC} (gf : GF X.w X.K X.mg A G) (ha : PEw X A Wx e te) (hc : XcV X A cx x) (hg : Gl X "isinstance") (hm : X.mg "isinstance" = none)
    (he : starEach [e, .Name x p2] X.env = (false, eval e X.env) :: starEach [.Name x p2] X.env) :
    PEw X A Wx (.Call (.Name "isinstance" p1) [e, .Name x p2] [] pos) (fun σ H Q E => te σ H (fun x H1 => match [cx] with
    | [c] => (match isiW G H1 x c with
      | some b => Q (.bl b) H1
      | none => False)
    | _ => False) E) := by
  have hcv : ∃ v, PE X (.Name x p2) (tC v) ∧ ClsV v ((om X A).xv cx) := by
    obtain ⟨h1, h2, h3⟩ := hc
    cases cx with
    | own cn => exact ⟨.ref (A.ca cn), pe_glob h1 h3 rfl h2, .own _⟩
    | blt m => exact ⟨.ty m, pe_bltn h1 h3.1 h3.2.1 rfl h3.2.2 h2, .ty m⟩
  obtain ⟨cv, hcv, kv⟩ := hcv
  have hs2 : starEach [.Name x p2] X.env = (false, eval (.Name x p2) X.env) :: starEach [] X.env := rfl
  refine peW (pe_callB call_isi hg hm (by decide +kernel) (pa_cons ha (pa_cons hcv pa_nil hs2) he) (by decide) (by decide) he rfl) fun σ H Q ⟨σW, HW, q, ee, rs, rh, h, nn, xr⟩ => ⟨σW, HW, _, ee, rs, rh, h, fun x HW1 v H1 t1 rx rh1 q1 => ?_, xr⟩
  dsimp only at q1
  cases e1 : isiW G HW1 x cx with
  | none => rw [e1] at q1; exact q1.elim
  | some b =>
    rw [e1] at q1
    obtain ⟨t, ty, kit⟩ := isi_ok gf rx rh1 e1
    exact ⟨v, cv, t, _, b, rfl, kv, ty, kit, (nn.later t1).here .bl rh1 q1⟩
/-! ### methods of lists and of texts -/
def Mth.id : Mth → String
  | .append => "list.append"
  | .popAt => "list.pop"
  | .pop => "list.pop"
  | .index => "list.index"
  | .count => "list.count"
  | .extend => "list.extend"
  | .insert => "list.insert"
  | .reverse => "list.reverse"
  | .clear => "list.clear"
  | .join => "str.join"
def Mth.name : Mth → Str
  | .append => "append"
  | .popAt => "pop"
  | .pop => "pop"
  | .index => "index"
  | .count => "count"
  | .extend => "extend"
  | .insert => "insert"
  | .reverse => "reverse"
  | .clear => "clear"
  | .join => "join"
def Mth.rt : Mth → String
  | .join => "str"
  | _ => "list"
def canM (Ω : Gd) (r : W → List W → HpW → QW → Prop) : V → List V → Hp → VK → Prop := fun v vs H Q => ∃ x ws HW q, RelW Ω H x v ∧ RelWs Ω H ws vs ∧ RelH Ω HW H ∧ r x ws HW q ∧ Nrm Ω H q Q
theorem RelWs.dropLast {Ω : Gd} {H : Hp} {ws : List W} {vs : List V} (r : RelWs Ω H ws vs) : RelWs Ω H ws.dropLast vs.dropLast := by
  rw [List.dropLast_eq_take, List.dropLast_eq_take, ← r.length]
  exact r.take _
theorem RelWs.reverse {Ω : Gd} {H : Hp} : ∀ {ws : List W} {vs : List V}, RelWs Ω H ws vs → RelWs Ω H ws.reverse vs.reverse
  | [], vs, h => by rw [h.inv_nil]; exact .nil
  | w :: ws, vs, h => by
    obtain ⟨v, q, rfl, a, b⟩ := h.inv_cons
    rw [List.reverse_cons, List.reverse_cons]
    exact (RelWs.reverse b).append (.cons a .nil)
theorem idxF_ok {Ω : Gd} {H : Hp} {x : W} {v : V} (rx : RelW Ω H x v) (f : flatW x = true) {ws : List W} {vs : List V} (r : RelWs Ω H ws vs) (g : ws.all flatW = true) {j : Nat} (e : idxF x ws = some j) : ∃ z, vs[j]? = some z ∧ eqV z v = true ∧ ∀ (m : Nat) (z' : V), m < j → vs[m]? = some z' → eqV z' v = false := by
  unfold idxF at e
  obtain ⟨h1, h2, h3⟩ := List.findIdx?_eq_some_iff_getElem.mp e
  have fl : ∀ {m : Nat} {w : W}, ws[m]? = some w → flatW w = true := fun {m w} em => List.all_eq_true.mp g w (List.mem_of_getElem? em)
  obtain ⟨z, e1, e2⟩ := r.get (List.getElem?_eq_getElem h1)
  refine ⟨z, e1, by rw [eqF_ok e2 rx (fl (List.getElem?_eq_getElem h1)) f]; exact h2, fun m z' hm ez => ?_⟩
  obtain ⟨w, e3, e4⟩ := r.getV ez
  rw [eqF_ok e4 rx (fl e3) f]
  obtain ⟨hl, e5⟩ := List.getElem?_eq_some_iff.mp e3
  have := h3 m hm
  rw [e5] at this
  simpa using this
theorem mt_countF : MtR X "list.count" (fun x xs H Q => ∃ (a : Addr) (ys : List V) (y : V), x = V.ref a ∧ xs = [y] ∧ SqL X.K H a ys ∧ flatV y = true ∧ ys.all flatV = true ∧ Q (.int (ys.countP fun z => eqV z y : Nat)) H) := by
  intro pins s σ H x xs v us Q I rx rxs h
  obtain ⟨a, ys, y, rfl, rfl, hs, fy, fys, q⟩ := h
  cases rx
  cases rxs with
  | cons ry rt =>
    rename_i uy ut
    cases rt
    obtain ⟨its, rv, ⟨⟨cls, dd, data, sl⟩, n, ho, hc, hdn, hd⟩, hlen⟩ := I.list hs
    simp only at hc hd
    subst hc hd
    refine call_meets PySem.F.slot_list_count ⟨_, ho, rfl⟩ PySem.F.entry_list_count (PySem.F.args_list_count_2 _ _)
      (SeqAt.list_countAt a its.toArray n dd sl uy (eqU y)) ⟨ho, fun u' hu' => mem_eqAt ry fy rv fys u' (by simpa using hu'), ?_⟩
    have ec : its.toArray.toList.countP (eqU y) = ys.countP fun z => eqV z y := by
      rw [List.toList_toArray]
      clear ho hlen hs q hdn
      induction rv with
      | nil => rfl
      | cons r1 r2 ih =>
        rw [List.all_cons, Bool.and_eq_true] at fys
        rw [List.countP_cons, List.countP_cons, ih fys.2, eqU_of r1 fys.1]
    refine ⟨.int _, H, I.tok _, ⟨s.toks, ?_⟩, q⟩
    show Value.int ((its.toArray.toList.countP (eqU y) : Nat) : Int) s.toks = _
    rw [ec]
theorem cntF_ok {Ω : Gd} {H : Hp} {x : W} {v : V} (rx : RelW Ω H x v) (f : flatW x = true) : ∀ {ws : List W} {vs : List V}, RelWs Ω H ws vs → ws.all flatW = true → (vs.countP fun z => eqV z v) = cntF x ws
  | [], vs, r, _ => by rw [r.inv_nil]; rfl
  | w :: ws, vs, r, g => by
    obtain ⟨u, q, rfl, a, b⟩ := r.inv_cons
    rw [List.all_cons, Bool.and_eq_true] at g
    have ih := cntF_ok rx f b g.2
    unfold cntF at ih ⊢
    rw [List.countP_cons, List.countP_cons, ih, eqF_ok a rx g.1 f]
theorem mt_all (hu : X.A.units + 65 < cLine) (m : Mth) : MtR X m.id (canM (om X A) (bmW m)) := by
  intro pins s σ H v vs vv us Q I rv rvs ⟨x, ws, HW, q, rx, rw1, rh, h, n⟩
  have lst : ∀ {a : Addr} {P : List W → Prop}, (match HW a with
      | some (.lst ws) => P ws
      | _ => False) → ∃ ws xs, HW a = some (.lst ws) ∧ H a = some (.lst xs) ∧ RelWs (om X A) H ws xs ∧ P ws := fun {a P} h => by
    cases ea : HW a with
    | none => rw [ea] at h; exact h.elim
    | some ob =>
      rw [ea] at h
      cases ob <;> first | (exact False.elim h; done) | skip
      obtain ⟨xs, ex, ra⟩ := rh _ _ ea
      exact ⟨_, xs, rfl, ex, ra, h⟩
  cases m
  case append =>
    cases x <;> first | (exact False.elim h; done) | skip
    rename_i a
    obtain rfl := rx.i_ref
    match ws, h, rw1 with
    | [w], h, rw1 =>
      obtain ⟨z, zs, rfl, r1, r2⟩ := rw1.inv_cons
      obtain rfl := r2.inv_nil
      obtain ⟨ws, xs, ea, ex, ra, h⟩ := lst (P := fun ws => ws.length < sizeLine ∧ q .non (updW HW a (.lst (ws ++ [w])))) h
      exact mt_append pins s σ H _ _ vv us Q I rv rvs ⟨a, xs, z, rfl, rfl, ex, by rw [← ra.length]; exact h.1, n _ _ _ _ (TLe.put ex trivial) .non (rh.putL ex (ra.append (.cons r1 .nil))) h.2⟩
    | [], h, _ => exact False.elim h
    | _ :: _ :: _, h, _ => exact False.elim h
  case popAt =>
    cases x <;> first | (exact False.elim h; done) | skip
    rename_i a
    obtain rfl := rx.i_ref
    match ws, h, rw1 with
    | [w], h, rw1 =>
      obtain ⟨z, zs, rfl, r1, r2⟩ := rw1.inv_cons
      obtain rfl := r2.inv_nil
      cases w <;> first | (exact False.elim h; done) | skip
      rename_i i
      obtain rfl := r1.i_int
      obtain ⟨ws, xs, ea, ex, ra, h⟩ := lst (P := fun ws => match ixN ws.length i with
            | some j => (match ws[j]? with
              | some w => q w (updW HW a (.lst (ws.eraseIdx j)))
              | none => False)
            | none => False) h
      cases ej : ixN ws.length i with
      | none => rw [ej] at h; exact h.elim
      | some j =>
        rw [ej] at h
        dsimp only at h
        cases ew : ws[j]? with
        | none => rw [ew] at h; exact h.elim
        | some w =>
          rw [ew] at h
          obtain ⟨z, e1, e2⟩ := ra.get ew
          rw [ra.length] at ej
          obtain ⟨k1, k2, k3, k4⟩ := ixN_seq ej
          have hz : xs.length < 2 ^ 63 := Nat.lt_of_le_of_lt (I.hok a _ ex).1 line63
          have t := TLe.put (Ω := om X A) (o := HO.lst (xs.eraseIdx j)) ex trivial
          have b1 : -(2 ^ 63) ≤ i := by omega
          have b2 : i < 2 ^ 63 := by omega
          exact mt_popAt pins s σ H _ _ vv us Q I rv rvs ⟨a, xs, i, j, z, rfl, rfl, ex, b1, b2, k1, e1, n _ _ _ _ t (e2.mono t) (rh.putL ex (ra.eraseIdx j)) h⟩
    | [], h, _ => exact False.elim h
    | w :: _ :: _, h, _ => cases w <;> exact False.elim h
  case pop =>
    cases x <;> first | (exact False.elim h; done) | skip
    rename_i a
    obtain rfl := rx.i_ref
    match ws, h, rw1 with
    | [], h, rw1 =>
      obtain rfl := rw1.inv_nil
      obtain ⟨ws, xs, ea, ex, ra, h⟩ := lst (P := fun ws => match ws[ws.length - 1]? with
        | some w => q w (updW HW a (.lst ws.dropLast))
        | none => False) h
      cases ew : ws[ws.length - 1]? with
      | none => rw [ew] at h; exact h.elim
      | some w =>
        rw [ew] at h
        obtain ⟨z, e1, e2⟩ := ra.get ew
        rw [ra.length] at e1
        have t := TLe.put (Ω := om X A) (o := HO.lst xs.dropLast) ex trivial
        exact mt_pop pins s σ H _ _ vv us Q I rv rvs ⟨a, xs, z, rfl, rfl, ex, e1, n _ _ _ _ t (e2.mono t) (rh.putL ex ra.dropLast) h⟩
    | _ :: _, h, _ => exact False.elim h
  case index =>
    cases x <;> first | (exact False.elim h; done) | skip
    rename_i a
    obtain rfl := rx.i_ref
    match ws, h, rw1 with
    | [w], h, rw1 =>
      obtain ⟨z, zs, rfl, r1, r2⟩ := rw1.inv_cons
      obtain rfl := r2.inv_nil
      obtain ⟨ws, xs, ea, ex, ra, h⟩ := lst (P := fun ws => (flatW w = true ∧ ws.all flatW = true ∧ (match idxF w ws with
        | some j => q (.int j) HW
        | none => False)) ∨ ∃ d ds j z, DpW HW w d ∧ DpW HW (.ref a) (.list ds) ∧ SeqAt.shaped d = true ∧ SeqAt.shaped (.list ds) = true ∧ ds[j]? = some z ∧ PyData.eqv z d = true ∧ (∀ (m : Nat) (z' : PyData), m < j → ds[m]? = some z' → PyData.eqv z' d = false) ∧ q (.int (j : Nat)) HW) h
      rcases h with ⟨h1, h2, h3⟩ | ⟨d, ds, j, zz, h1, h2, h3, h4, h5, h6, h7, h8⟩
      · cases ei : idxF w ws with
        | none => rw [ei] at h3; exact h3.elim
        | some j =>
          rw [ei] at h3
          obtain ⟨y, e1, e2, e3⟩ := idxF_ok r1 h1 ra h2 ei
          exact mt_index pins s σ H _ _ vv us Q I rv rvs ⟨a, xs, z, j, y, rfl, rfl, SqL.of ex, flat_ok r1 h1, flats_ok ra h2, e1, e2, e3, n.here .int rh h3⟩
      · exact mt_indexD hu pins s σ H _ _ vv us Q I rv rvs ⟨a, z, d, ds, j, zz, rfl, rfl, h2.to rh .ref, h1.to rh r1, h4, h3, h5, h6, h7, n.here .int rh h8⟩
    | [], h, _ => exact False.elim h
    | _ :: _ :: _, h, _ => exact False.elim h
  case count =>
    cases x <;> first | (exact False.elim h; done) | skip
    rename_i a
    obtain rfl := rx.i_ref
    match ws, h, rw1 with
    | [w], h, rw1 =>
      obtain ⟨z, zs, rfl, r1, r2⟩ := rw1.inv_cons
      obtain rfl := r2.inv_nil
      obtain ⟨ws, xs, ea, ex, ra, h1, h2, h3⟩ := lst (P := fun ws => flatW w = true ∧ ws.all flatW = true ∧ q (.int (cntF w ws)) HW) h
      rw [← cntF_ok r1 h1 ra h2] at h3
      exact mt_countF pins s σ H _ _ vv us Q I rv rvs ⟨a, xs, z, rfl, rfl, SqL.of ex, flat_ok r1 h1, flats_ok ra h2, n.here .int rh h3⟩
    | [], h, _ => exact False.elim h
    | _ :: _ :: _, h, _ => exact False.elim h
  case extend =>
    cases x <;> first | (exact False.elim h; done) | skip
    rename_i a
    obtain rfl := rx.i_ref
    match ws, h, rw1 with
    | [w], h, rw1 =>
      obtain ⟨z, zs, rfl, r1, r2⟩ := rw1.inv_cons
      obtain rfl := r2.inv_nil
      cases w <;> first | (exact False.elim h; done) | skip
      rename_i b
      obtain rfl := r1.i_ref
      replace h : (match HW a, HW b with
        | some (.lst ws), some (.lst zs) => ws.length + zs.length ≤ sizeLine ∧ q .non (updW HW a (.lst (ws ++ zs)))
        | _, _ => False) := h
      split at h
      · rename_i ws zs ea eb
        obtain ⟨xs, ex, ra⟩ := rh _ _ ea
        obtain ⟨ys, ey, rb⟩ := rh _ _ eb
        exact mt_extend pins s σ H _ _ vv us Q I rv rvs ⟨a, b, xs, ys, rfl, rfl, ex, ey, by rw [← ra.length, ← rb.length]; exact h.1, n _ _ _ _ (TLe.put ex trivial) .non (rh.putL ex (ra.append rb)) h.2⟩
      · exact h.elim
    | [], h, _ => exact False.elim h
    | w :: _ :: _, h, _ => cases w <;> exact False.elim h
  case insert =>
    cases x <;> first | (exact False.elim h; done) | skip
    rename_i a
    obtain rfl := rx.i_ref
    match ws, h, rw1 with
    | [w1, w], h, rw1 =>
      obtain ⟨z1, zs, rfl, r1, r2⟩ := rw1.inv_cons
      obtain ⟨z, zs, rfl, r4, r3⟩ := r2.inv_cons
      obtain rfl := r3.inv_nil
      cases w1 <;> first | (exact False.elim h; done) | skip
      rename_i i
      obtain rfl := r1.i_int
      obtain ⟨ws, xs, ea, ex, ra, h1, h2, h3, h4⟩ := lst (P := fun ws => ws.length < sizeLine ∧ 0 ≤ i ∧ i < 2 ^ 63 ∧ q .non (updW HW a (.lst (ws.take i.toNat ++ [w] ++ ws.drop i.toNat)))) h
      exact mt_insert pins s σ H _ _ vv us Q I rv rvs ⟨a, xs, i, z, rfl, rfl, ex, by rw [← ra.length]; exact h1, h2, h3, n _ _ _ _ (TLe.put ex trivial) .non (rh.putL ex (((ra.take _).append (.cons r4 .nil)).append (ra.drop _))) h4⟩
    | [], h, _ => exact False.elim h
    | [w], h, _ => cases w <;> exact False.elim h
    | w :: _ :: _ :: _, h, _ => cases w <;> exact False.elim h
  case reverse =>
    cases x <;> first | (exact False.elim h; done) | skip
    rename_i a
    obtain rfl := rx.i_ref
    match ws, h, rw1 with
    | [], h, rw1 =>
      obtain rfl := rw1.inv_nil
      obtain ⟨ws, xs, ea, ex, ra, h⟩ := lst (P := fun ws => q .non (updW HW a (.lst ws.reverse))) h
      exact mt_reverse pins s σ H _ _ vv us Q I rv rvs ⟨a, xs, rfl, rfl, ex, n _ _ _ _ (TLe.put ex trivial) .non (rh.putL ex ra.reverse) h⟩
    | _ :: _, h, _ => exact False.elim h
  case clear =>
    cases x <;> first | (exact False.elim h; done) | skip
    rename_i a
    obtain rfl := rx.i_ref
    match ws, h, rw1 with
    | [], h, rw1 =>
      obtain rfl := rw1.inv_nil
      obtain ⟨ws, xs, ea, ex, ra, h⟩ := lst (P := fun ws => q .non (updW HW a (.lst []))) h
      exact mt_clear pins s σ H _ _ vv us Q I rv rvs ⟨a, xs, rfl, rfl, ex, n _ _ _ _ (TLe.put ex trivial) .non (rh.putL ex .nil) h⟩
    | _ :: _, h, _ => exact False.elim h
  case join =>
    cases x <;> first | (exact False.elim h; done) | skip
    rename_i y
    obtain rfl := rx.i_str
    match ws, h, rw1 with
    | [w], h, rw1 =>
      obtain ⟨z, zs, rfl, r1, r2⟩ := rw1.inv_cons
      obtain rfl := r2.inv_nil
      cases w <;> first | (exact False.elim h; done) | skip
      · rename_i ws
        obtain ⟨a, xs, rfl, sa, ra⟩ := r1.i_tup
        replace h : (match strsW ws with
          | some ys => (ys.map (·.length)).sum + ys.length * y.length ≤ 16777216 ∧ q (.str (Txt.join y ys)) HW
          | none => False) := h
        cases es : strsW ws with
        | none => rw [es] at h; exact h.elim
        | some ys =>
          rw [es] at h
          rw [ra.strs es] at sa
          exact mt_join pins s σ H _ _ vv us Q I rv rvs ⟨y, a, ys, rfl, rfl, .inr sa, h.1, n.here .str rh h.2⟩
      · rename_i p
        obtain rfl := r1.i_ref
        obtain ⟨ws, xs, ea, ex, ra, h⟩ := lst (P := fun ws => match strsW ws with
          | some ys => (ys.map (·.length)).sum + ys.length * y.length ≤ 16777216 ∧ q (.str (Txt.join y ys)) HW
          | none => False) h
        cases es : strsW ws with
        | none => rw [es] at h; exact h.elim
        | some ys =>
          rw [es] at h
          rw [ra.strs es] at ex
          exact mt_join pins s σ H _ _ vv us Q I rv rvs ⟨y, p, ys, rfl, rfl, .inl (SqL.of ex), h.1, n.here .str rh h.2⟩
    | [], h, _ => exact False.elim h
    | w :: _ :: _, h, _ => cases w <;> exact False.elim h
theorem rcv_ty {m : Mth} {x : W} {HW : HpW} {H : Hp} {v : V} (rx : RelW (om X A) H x v) (rh : RelH (om X A) HW H) (h : rcvW m HW x = true) : tyV X.K m.rt v H := by
  have lst : ∀ {a : Addr}, (match HW a with
      | some (.lst _) => true
      | _ => false) = true → RelW (om X A) H (.ref a) v → tyV X.K "list" v H := fun {a} h rx => by
    obtain rfl := rx.i_ref
    cases ea : HW a with
    | none => rw [ea] at h; cases h
    | some ob =>
      rw [ea] at h
      cases ob <;> first | (cases h; done) | skip
      obtain ⟨ys, ey, _⟩ := rh _ _ ea
      exact .inl ⟨rfl, ys, SqL.of ey⟩
  cases m <;> cases x <;> first | (cases h; done) | exact lst h rx | skip
  obtain rfl := rx.i_str
  rfl
theorem pew_bm {m : Mth} (hu : X.A.units + 65 < cLine) (ho : PEw X A Wx o ta) (ha : PAw X A Wx (e :: es) ts) (hbase : attributeBase o m.name X.env (eval o X.env) = eval o X.env)
    (hfew : ((backTo pos (starEach (e :: es) X.env)).all (fun x => !x.1) && (backToKw pos (keywordEach [] X.env)).all (fun x => x.1.isSome)
      && decide ((e :: es).length + ([] : List Keyword).length + (if ([] : List Keyword).isEmpty then 0 else 1) < 30)) = true)
    (hline : (apos.endLine == pos.line) = true) (hs : starEach (e :: es) X.env = (false, eval e X.env) :: starEach es X.env) (hplain : (backTo pos (starEach es X.env)).any (·.1) = false) :
    PEw X A Wx (.Call (.Attribute o m.name apos) (e :: es) [] pos) (fun σ H Q E => ta σ H (fun x H1 => rcvW m H1 x = true ∧ ts σ H1 (fun ws H2 => bmW m x ws H2 Q) E) E) := by
  have key : PE X (.Call (.Attribute o m.name apos) (e :: es) [] pos) (tBM X.K m.rt (canM (om X A) (bmW m)) (canE (om X A) Wx ta) (canA (om X A) Wx ts)) := by
    have mm : MtR X m.id (canM (om X A) (bmW m)) := mt_all hu m
    revert mm
    cases m <;> intro mm
    · exact pe_bm PySem.F.plainAttrs_list PySem.F.slot_list_append PySem.F.type_list_append mm ho ha hbase hfew hline hs hplain
    · exact pe_bm PySem.F.plainAttrs_list PySem.F.slot_list_pop PySem.F.type_list_pop mm ho ha hbase hfew hline hs hplain
    · exact pe_bm PySem.F.plainAttrs_list PySem.F.slot_list_pop PySem.F.type_list_pop mm ho ha hbase hfew hline hs hplain
    · exact pe_bm PySem.F.plainAttrs_list PySem.F.slot_list_index PySem.F.type_list_index mm ho ha hbase hfew hline hs hplain
    · exact pe_bm PySem.F.plainAttrs_list PySem.F.slot_list_count PySem.F.type_list_count mm ho ha hbase hfew hline hs hplain
    · exact pe_bm PySem.F.plainAttrs_list PySem.F.slot_list_extend PySem.F.type_list_extend mm ho ha hbase hfew hline hs hplain
    · exact pe_bm PySem.F.plainAttrs_list PySem.F.slot_list_insert PySem.F.type_list_insert mm ho ha hbase hfew hline hs hplain
    · exact pe_bm PySem.F.plainAttrs_list PySem.F.slot_list_reverse PySem.F.type_list_reverse mm ho ha hbase hfew hline hs hplain
    · exact pe_bm PySem.F.plainAttrs_list PySem.F.slot_list_clear PySem.F.type_list_clear mm ho ha hbase hfew hline hs hplain
    · exact pe_bm PySem.F.plainAttrs_str PySem.F.slot_str_join PySem.F.type_str_join mm ho ha hbase hfew hline hs hplain
  exact peW key fun σ H Q ⟨σW, HW, q, ee, rs, rh, h, nn, xr⟩ => ⟨σW, HW, _, ee, rs, rh, h, fun x HW1 v H1 t1 rx rh1 q1 =>
    ⟨rcv_ty rx rh1 q1.1, σW, HW1, _, ee, rs.mono t1, rh1, q1.2, fun ws HW2 vs H2 t2 rws rh2 q2 => ⟨_, ws, HW2, q, rx.mono t2, rws, rh2, q2, nn.later (t1.trans t2)⟩, xr.later t1⟩, xr⟩
theorem pew_bm0 {m : Mth} (hu : X.A.units + 65 < cLine) (ho : PEw X A Wx o ta) (hbase : attributeBase o m.name X.env (eval o X.env) = eval o X.env) (hline : (apos.endLine == pos.line) = true) :
    PEw X A Wx (.Call (.Attribute o m.name apos) [] [] pos) (fun σ H Q E => ta σ H (fun x H1 => rcvW m H1 x = true ∧ bmW m x [] H1 Q) E) := by
  have key : PE X (.Call (.Attribute o m.name apos) [] [] pos) (tBM0 X.K m.rt (canM (om X A) (bmW m)) (canE (om X A) Wx ta)) := by
    have mm : MtR X m.id (canM (om X A) (bmW m)) := mt_all hu m
    revert mm
    cases m <;> intro mm
    · exact pe_bm0 PySem.F.plainAttrs_list PySem.F.slot_list_append PySem.F.type_list_append mm ho hbase hline
    · exact pe_bm0 PySem.F.plainAttrs_list PySem.F.slot_list_pop PySem.F.type_list_pop mm ho hbase hline
    · exact pe_bm0 PySem.F.plainAttrs_list PySem.F.slot_list_pop PySem.F.type_list_pop mm ho hbase hline
    · exact pe_bm0 PySem.F.plainAttrs_list PySem.F.slot_list_index PySem.F.type_list_index mm ho hbase hline
    · exact pe_bm0 PySem.F.plainAttrs_list PySem.F.slot_list_count PySem.F.type_list_count mm ho hbase hline
    · exact pe_bm0 PySem.F.plainAttrs_list PySem.F.slot_list_extend PySem.F.type_list_extend mm ho hbase hline
    · exact pe_bm0 PySem.F.plainAttrs_list PySem.F.slot_list_insert PySem.F.type_list_insert mm ho hbase hline
    · exact pe_bm0 PySem.F.plainAttrs_list PySem.F.slot_list_reverse PySem.F.type_list_reverse mm ho hbase hline
    · exact pe_bm0 PySem.F.plainAttrs_list PySem.F.slot_list_clear PySem.F.type_list_clear mm ho hbase hline
    · exact pe_bm0 PySem.F.plainAttrs_str PySem.F.slot_str_join PySem.F.type_str_join mm ho hbase hline
  exact peW key fun σ H Q ⟨σW, HW, q, ee, rs, rh, h, nn, xr⟩ => ⟨σW, HW, _, ee, rs, rh, h, fun x HW1 v H1 t1 rx rh1 q1 =>
    ⟨rcv_ty rx rh1 q1.1, _, [], HW1, q, rx, .nil, rh1, q1.2, nn.later t1⟩, xr⟩
end
end Uw

namespace Uw
open PySem PySem.Spec PyProof.Rows L2
/-! ### what is walked -/
structure ItOk (Ω : Gd) (H0 : Hp) (J : It) (ws : List W) (gd : HpW → Prop) : Prop where
  go : ∀ i HW H w, TLe Ω H0 H → RelH Ω HW H → gd HW → ws[i]? = some w → J.go i H ∧ ∀ x H', J.yld i H x H' → TLe Ω H H' ∧ RelH Ω HW H' ∧ RelW Ω H' w x
  stop : ∀ i HW H, TLe Ω H0 H → RelH Ω HW H → gd HW → ws.length ≤ i → J.stop i H
abbrev TIW := StW → HpW → (List W → (HpW → Prop) → HpW → Prop) → EW → Prop
def canI (Ω : Gd) (Wx : WX) (t : TIW) : TI := fun σ H R => ∃ σW HW r e, RelS Ω H σW σ ∧ RelH Ω HW H ∧ t σW HW r e ∧ (∀ ws gd HW' J H', TLe Ω H H' → RelH Ω HW' H' → ItOk Ω H' J ws gd → r ws gd HW' → R J H') ∧ Xrm Ω H e (fun c d H' => Wx c d σ H')
section
variable {X : Cx} {A : Ad} {Wx : WX} {G : GT} {tg l : Expr} {pos p : Pos} {tl : TEW} {H0 : Hp}
theorem it_lst {a : Addr} {ws : List W} : ItOk (om X A) H0 (Itl X.K a) ws (fun H => H a = some (.lst ws)) where
  go := fun i HW H w _ rh g e => by
    obtain ⟨xs, ex, r⟩ := rh _ _ g
    obtain ⟨v, e1, e2⟩ := r.get e
    refine ⟨⟨xs, v, SqL.of ex, e1⟩, fun x H' y => ?_⟩
    obtain ⟨rfl, y⟩ := y
    have := y xs (SqL.of ex)
    rw [e1] at this; cases this
    exact ⟨TLe.refl, rh, e2⟩
  stop := fun i HW H _ rh g e => by
    obtain ⟨xs, ex, r⟩ := rh _ _ g
    exact ⟨xs, SqL.of ex, by rw [← r.length]; exact e⟩
theorem it_scr {a : Addr} {ns : List Int} (sf : SqF X.K H0 a (ns.map V.int)) : ItOk (om X A) H0 (Itl X.K a) (ns.map W.int) (fun _ => True) where
  go := fun i HW H w t rh _ e => by
    have s : SqL X.K H a (ns.map V.int) := (SqF.mono (Ω := om X A) t sf).sq
    obtain ⟨v, e1, e2⟩ := (rel_ints (Ω := om X A) (H := H) ns).get e
    refine ⟨⟨_, v, s, e1⟩, fun x H' y => ?_⟩
    obtain ⟨rfl, y⟩ := y
    have := y _ s
    rw [e1] at this; cases this
    exact ⟨TLe.refl, rh, e2⟩
  stop := fun i HW H t rh _ e => ⟨ns.map V.int, (SqF.mono (Ω := om X A) t sf).sq, by rw [List.length_map]; rw [List.length_map] at e; exact e⟩
theorem it_tup {a : Addr} {xs : List V} {ws : List W} (s : SqT X.K H0 a xs) (r : RelWs (om X A) H0 ws xs) : ItOk (om X A) H0 (Itt X.K a) ws (fun _ => True) where
  go := fun i HW H w t rh _ e => by
    obtain ⟨v, e1, e2⟩ := (r.mono t).get e
    refine ⟨⟨xs, v, t.t _ _ s, e1⟩, fun x H' y => ?_⟩
    obtain ⟨rfl, y⟩ := y
    have := y xs (t.t _ _ s)
    rw [e1] at this; cases this
    exact ⟨TLe.refl, rh, e2⟩
  stop := fun i HW H t _ _ e => ⟨xs, t.t _ _ s, by rw [← r.length]; exact e⟩
theorem it_str {z : Str} : ItOk (om X A) H0 (Its z) (z.cps.toList.map fun c => W.str ⟨#[c]⟩) (fun _ => True) where
  go := fun i HW H w _ rh _ e => by
    rw [List.getElem?_map] at e
    cases ec : z.cps.toList[i]? with
    | none => rw [ec] at e; cases e
    | some c =>
      rw [ec] at e
      have ec' : z.cps[i]? = some c := by simpa using ec
      refine ⟨(Array.getElem?_eq_some_iff.mp ec').1, fun x H' y => ?_⟩
      obtain ⟨rfl, c', e1, rfl⟩ := y
      rw [ec'] at e1; cases e1
      rw [← Option.some.inj e]
      exact ⟨TLe.refl, rh, .str⟩
  stop := fun i HW H _ _ _ e => by
    rw [List.length_map, Array.length_toList] at e
    exact e
theorem it_rng {lo : Int} {n : Nat} : ItOk (om X A) H0 (Itr lo n) ((List.range n).map fun k : Nat => W.int (lo + k)) (fun _ => True) where
  go := fun i HW H w _ rh _ e => by
    rw [List.getElem?_map] at e
    by_cases hi : i < n
    · rw [List.getElem?_range hi] at e
      refine ⟨hi, fun x H' y => ?_⟩
      obtain ⟨rfl, rfl⟩ := y
      rw [← Option.some.inj e]
      exact ⟨TLe.refl, rh, .int⟩
    · rw [List.getElem?_eq_none (by simpa using hi)] at e; cases e
  stop := fun i HW H _ _ _ e => by
    rw [List.length_map, List.length_range] at e
    exact e
theorem kW_rel {Ω : Gd} {H : Hp} (k : Key) : RelW Ω H (kW k) (kV k) := by
  cases k
  · exact .int
  · exact .str
theorem RelKs.at {κ : Type} {Ω : Gd} {H : Hp} : ∀ {l : List (κ × W)} {s : List (κ × V)} {i : Nat} {k : κ} {w : W}, RelKs Ω H l s → l[i]? = some (k, w) → ∃ v, s[i]? = some (k, v) ∧ RelW Ω H w v
  | [], s, i, k, w, h, e => by simp at e
  | (k', w') :: l, s, 0, k, w, h, e => by
    obtain ⟨v, r, rfl, a, b⟩ := h
    simp at e
    obtain ⟨rfl, rfl⟩ := e
    exact ⟨v, rfl, a⟩
  | (k', w') :: l, s, i + 1, k, w, h, e => by
    obtain ⟨v, r, rfl, a, b⟩ := h
    obtain ⟨v', e', q⟩ := RelKs.at (i := i) b (by simpa using e)
    exact ⟨v', by simpa using e', q⟩
theorem map_at {α β : Type} {f : α → β} {l : List α} {i : Nat} {w : β} (e : (l.map f)[i]? = some w) : ∃ a, l[i]? = some a ∧ w = f a := by
  rw [List.getElem?_map] at e
  cases h : l[i]? with
  | none => rw [h] at e; cases e
  | some a => rw [h] at e; cases e; exact ⟨a, rfl, rfl⟩
theorem at_lt {α : Type} {l : List α} {i : Nat} {a : α} (e : l[i]? = some a) : i < l.length := by
  obtain ⟨h, _⟩ := List.getElem?_eq_some_iff.mp e
  exact h
section
variable {d : Addr} {o : Obj} {xs : List (Key × V)} {kvs : List (Key × W)}
theorem it_keys (h : H0 d = some (.frz o (.dK xs))) (r : RelKs (om X A) H0 kvs xs) : ItOk (om X A) H0 (Itk d o xs) (kvs.map fun kv => kW kv.1) (fun _ => True) where
  go := fun i HW H w t rh _ e => by
    have hH := t.f _ _ _ h
    obtain ⟨⟨k, w'⟩, e1, rfl⟩ := map_at e
    obtain ⟨v, e2, e3⟩ := (r.mono t).at e1
    refine ⟨⟨hH, at_lt e2⟩, fun x H' y => ?_⟩
    obtain ⟨rfl, k', v', e4, rfl⟩ := y
    rw [e2] at e4; cases e4
    exact ⟨TLe.refl, rh, kW_rel k⟩
  stop := fun i HW H t rh _ e => ⟨t.f _ _ _ h, by rw [← r.len]; simpa using e⟩
theorem it_vals (h : H0 d = some (.frz o (.dK xs))) (r : RelKs (om X A) H0 kvs xs) : ItOk (om X A) H0 (Itd d o xs) (kvs.map fun kv => kv.2) (fun _ => True) where
  go := fun i HW H w t rh _ e => by
    have hH := t.f _ _ _ h
    obtain ⟨⟨k, w'⟩, e1, rfl⟩ := map_at e
    obtain ⟨v, e2, e3⟩ := (r.mono t).at e1
    refine ⟨⟨hH, at_lt e2⟩, fun x H' y => ?_⟩
    obtain ⟨rfl, k', e4⟩ := y
    rw [e2] at e4; cases e4
    exact ⟨TLe.refl, rh, e3⟩
  stop := fun i HW H t rh _ e => ⟨t.f _ _ _ h, by rw [← r.len]; simpa using e⟩
theorem it_items (h : H0 d = some (.frz o (.dK xs))) (r : RelKs (om X A) H0 kvs xs) : ItOk (om X A) H0 (Iti d o xs) (kvs.map fun kv => .tup [kW kv.1, kv.2]) (fun _ => True) where
  go := fun i HW H w t rh _ e => by
    have hH := t.f _ _ _ h
    obtain ⟨⟨k, w'⟩, e1, rfl⟩ := map_at e
    obtain ⟨v, e2, e3⟩ := (r.mono t).at e1
    refine ⟨⟨hH, at_lt e2⟩, fun x H' y => ?_⟩
    obtain ⟨T, k', v', e4, rfl, hT, rfl⟩ := y
    rw [e2] at e4; cases e4
    have tt : TLe (om X A) H (upd H T (.tup [kV k, v])) := TLe.new hT
    exact ⟨tt, rh.new0 hT, .tup (SqT.of upd_same) (.cons (kW_rel k) (.cons (e3.mono tt) .nil))⟩
  stop := fun i HW H t rh _ e => ⟨t.f _ _ _ h, by rw [← r.len]; simpa using e⟩
end
theorem enumL_at : ∀ {ws : List W} {n i : Nat} {w : W}, (enumL n ws)[i]? = some w → ∃ u, ws[i]? = some u ∧ w = .tup [.int ((n + i : Nat) : Int), u]
  | [], n, i, w, e => by simp [enumL] at e
  | u :: ws, n, 0, w, e => by simp [enumL] at e; exact ⟨u, rfl, by rw [← e]; rfl⟩
  | u :: ws, n, i + 1, w, e => by
    obtain ⟨z, e1, e2⟩ := enumL_at (ws := ws) (n := n + 1) (i := i) (w := w) (by simpa [enumL] using e)
    refine ⟨z, by simpa using e1, ?_⟩
    rw [e2, show n + 1 + i = n + (i + 1) by omega]
theorem enumL_len : ∀ (ws : List W) (n : Nat), (enumL n ws).length = ws.length
  | [], _ => rfl
  | u :: ws, n => by simp [enumL, enumL_len ws (n + 1)]
theorem it_enum {a : Addr} {ws : List W} : ItOk (om X A) H0 (Ite X.K a) (enumL 0 ws) (fun H => H a = some (.lst ws)) where
  go := fun i HW H w _ rh g e => by
    obtain ⟨u, e0, rfl⟩ := enumL_at e
    obtain ⟨xs, ex, r⟩ := rh _ _ g
    obtain ⟨v, e1, e2⟩ := r.get e0
    refine ⟨⟨xs, v, SqL.of ex, e1⟩, fun x H' y => ?_⟩
    obtain ⟨T, z, rfl, hT, rfl, y⟩ := y
    have := y xs (SqL.of ex)
    rw [e1] at this; cases this
    have tt : TLe (om X A) H (upd H T (.tup [.int (i : Nat), v])) := TLe.new hT
    refine ⟨tt, rh.new0 hT, .tup (SqT.of upd_same) (.cons ?_ (.cons (e2.mono tt) .nil))⟩
    rw [Nat.zero_add]; exact .int
  stop := fun i HW H _ rh g e => by
    obtain ⟨xs, ex, r⟩ := rh _ _ g
    exact ⟨xs, SqL.of ex, by rw [← r.length]; rw [enumL_len] at e; exact e⟩
theorem zipL_at : ∀ {ws us : List W} {i : Nat} {w : W}, (zipL ws us)[i]? = some w → ∃ x y, ws[i]? = some x ∧ us[i]? = some y ∧ w = .tup [x, y]
  | [], us, i, w, e => by simp [zipL] at e
  | x :: ws, [], i, w, e => by simp [zipL] at e
  | x :: ws, y :: us, 0, w, e => by simp [zipL] at e; exact ⟨x, y, rfl, rfl, e.symm⟩
  | x :: ws, y :: us, i + 1, w, e => by
    obtain ⟨p, q, e1, e2, e3⟩ := zipL_at (ws := ws) (us := us) (i := i) (w := w) (by simpa [zipL] using e)
    exact ⟨p, q, by simpa using e1, by simpa using e2, e3⟩
theorem zipL_len : ∀ (ws us : List W) (i : Nat), (zipL ws us).length ≤ i → ws.length ≤ i ∨ us.length ≤ i
  | [], us, i, _ => .inl (Nat.zero_le _)
  | x :: ws, [], i, _ => .inr (Nat.zero_le _)
  | x :: ws, y :: us, 0, e => by simp [zipL] at e
  | x :: ws, y :: us, i + 1, e => by
    rcases zipL_len ws us i (by simpa [zipL] using e) with h | h
    · exact .inl (by simpa using h)
    · exact .inr (by simpa using h)
theorem it_zip {a b : Addr} {ws us : List W} : ItOk (om X A) H0 (Itz X.K a b) (zipL ws us) (fun H => H a = some (.lst ws) ∧ H b = some (.lst us)) where
  go := fun i HW H w _ rh g e => by
    obtain ⟨x0, y0, f1, f2, rfl⟩ := zipL_at e
    obtain ⟨xs, ex, r⟩ := rh _ _ g.1
    obtain ⟨ys, ey, r'⟩ := rh _ _ g.2
    obtain ⟨v, e1, e2⟩ := r.get f1
    obtain ⟨v', e1', e2'⟩ := r'.get f2
    refine ⟨⟨xs, ys, v, v', SqL.of ex, SqL.of ey, e1, e1'⟩, fun x H' y => ?_⟩
    obtain ⟨T, z, z', rfl, hT, rfl, y, y'⟩ := y
    have := y xs (SqL.of ex)
    rw [e1] at this; cases this
    have := y' ys (SqL.of ey)
    rw [e1'] at this; cases this
    have tt : TLe (om X A) H (upd H T (.tup [v, v'])) := TLe.new hT
    exact ⟨tt, rh.new0 hT, .tup (SqT.of upd_same) (.cons (e2.mono tt) (.cons (e2'.mono tt) .nil))⟩
  stop := fun i HW H _ rh g e => by
    obtain ⟨xs, ex, r⟩ := rh _ _ g.1
    obtain ⟨ys, ey, r'⟩ := rh _ _ g.2
    refine ⟨xs, ys, SqL.of ex, SqL.of ey, ?_⟩
    rw [← r.length, ← r'.length]
    exact zipL_len ws us i e
/-- a dict, locked -/
theorem lockD {pins : List (Addr × Obj)} {σ : L2.St} {H : Hp} {s : Shared} {HW : HpW} {a : Addr} {kvs : List (Key × W)} {xs : List (Key × V)} (I : Inv X pins σ H s) (rh : RelH (om X A) HW H) (e : H a = some (.dK xs)) (r : RelKs (om X A) H kvs xs) :
    ∃ od, Inv X pins σ (upd H a (.frz od (.dK xs))) s ∧ TLe (om X A) H (upd H a (.frz od (.dK xs))) ∧ RelH (om X A) (updW HW a (.fdc kvs)) (upd H a (.frz od (.dK xs))) ∧ RelKs (om X A) (upd H a (.frz od (.dK xs))) kvs xs := by
  obtain ⟨od, I'⟩ := I.lock e trivial
  have t : TLe (om X A) H (upd H a (.frz od (.dK xs))) := TLe.put e trivial
  exact ⟨od, I', t, rh.put e trivial (show ∃ o xs', _ ∧ _ from ⟨od, xs, upd_same, r.mono t⟩), r.mono t⟩
theorem piw_bad : PI X tg l (canI (om X A) Wx (fun _ _ _ _ => False)) := ⟨fun _ _ _ _ _ _ ⟨_, _, _, _, _, _, h, _⟩ => h.elim⟩
theorem piw_iter (hl : PEw X A Wx l tl) : PI X tg l (canI (om X A) Wx (fun σ H R E => tl σ H (fun x H1 => iterW x H1 R) E)) := by
  refine ⟨fun pins s σ H R I ⟨σW, HW, r, ee, rs, rh, h, n, xr⟩ => ?_⟩
  refine thn (hl.run pins s σ H _ I ⟨σW, HW, _, ee, rs, rh, h, nrm_stop, xr⟩) fun v s1 ⟨y, H1, I1, r1, x, HW1, t1, rx, rh1, q⟩ => ?_
  have lst : ∀ {a : Addr} {xs : List V}, SqL X.K H1 a xs → R (Itl X.K a) H1 → wpAny (model X.prog X.w) X.A (pyIter (.ref a)) (PIE X pins σ tg R) X.xe s1 := fun {a xs} hq q => by
    obtain ⟨its, rv, p, hz⟩ := I1.list hq
    refine wpAny_pyIter_list p.isList ?_
    exact pi_one (tk := s1.toks) I1 _ (turn_list a _) ⟨_, Heap.get?_push_size _ rfl, rfl, rfl⟩ q
  cases x <;> first | (exact False.elim q; done) | skip
  · rename_i z
    obtain rfl := rx.i_str
    obtain ⟨t, rfl⟩ := r1
    have q : R (Its z) H1 := n _ _ _ _ _ t1 rh1 it_str q
    cases ha : z.cps.all (· < 128)
    · exact wpAny_pyIter_wide ha (pi_one (tk := s1.toks) I1 _ (turn_str _ z t "str_iterator" (.inr rfl)) ⟨_, Heap.get?_push_size _ rfl, rfl, rfl⟩ q)
    · exact wpAny_pyIter_ascii ha (pi_one (tk := s1.toks) I1 _ (turn_str _ z t "str_ascii_iterator" (.inl rfl)) ⟨_, Heap.get?_push_size _ rfl, rfl, rfl⟩ q)
  · obtain ⟨a, xs, rfl, sa, ra⟩ := rx.i_tup
    obtain rfl : v = Value.ref a := r1
    obtain ⟨its, rv, p, hz⟩ := I1.tuple sa
    refine wpAny_pyIter_tuple (show s1.heap.IsTuple a its.toArray from p) ?_
    exact pi_one (tk := s1.toks) I1 _ (turn_tuple a _) ⟨_, Heap.get?_push_size _ rfl, rfl, rfl⟩ (n _ _ _ _ _ t1 rh1 (it_tup sa ra) q)
  · rename_i a
    obtain rfl := rx.i_ref
    obtain rfl : v = Value.ref a := r1
    unfold iterW at q
    dsimp only at q
    cases ea : HW1 a with
    | none => rw [ea] at q; exact q.elim
    | some ob =>
      rw [ea] at q
      cases ob <;> first | (exact False.elim q; done) | skip
      · obtain ⟨xs, ex, ra⟩ := rh1 _ _ ea
        exact lst (SqL.of ex) (n _ _ _ _ _ t1 rh1 it_lst q)
      · obtain ⟨xs, ex, ra⟩ := rh1 _ _ ea
        obtain ⟨od, I2, t2, rh2, ra2⟩ := lockD I1 rh1 ex ra
        obtain ⟨hs, hgd, hx, es, ep, vs, hdt, hsz, kv, hm⟩ := I2.frzK (d := a) (upd_same)
        refine iter_keys hs hgd hx hdt (pi_one (tk := s1.toks) I2 _ (turn_keys _ hdt) ⟨_, Heap.get?_push_size _ rfl, rfl, ?_⟩ (n _ _ _ _ _ (t1.trans t2) rh2 (it_keys upd_same ra2) q))
        rw [hsz] <;> rfl
      · obtain ⟨od, xs, ex, ra⟩ := rh1 _ _ ea
        obtain ⟨hs, hgd, hx, es, ep, vs, hdt, hsz, kv, hm⟩ := I1.frzK ex
        refine iter_keys hs hgd hx hdt (pi_one (tk := s1.toks) I1 _ (turn_keys _ hdt) ⟨_, Heap.get?_push_size _ rfl, rfl, ?_⟩ (n _ _ _ _ _ t1 rh1 (it_keys ex ra) q))
        rw [hsz] <;> rfl
  · rename_i ns
    obtain ⟨a, rfl, sf⟩ := rx.i_scr
    obtain rfl : v = Value.ref a := r1
    exact lst sf.sq (n _ _ _ _ _ t1 rh1 (it_scr sf) q)
/-- a dict, locked once it is there -/
def tLk (td : TE) : TE := fun σ H Q => td σ H fun x H1 => ∃ d xs, x = .ref d ∧ ((H1 d = some (.dK xs) ∧ ∀ od, Q x (upd H1 d (.frz od (.dK xs)))) ∨ ∃ od, H1 d = some (.frz od (.dK xs)) ∧ Q x H1)
theorem pe_lk {e : Expr} {td : TE} (he : PE X e td) : PE X e (tLk td) := by
  refine ⟨fun pins s σ H Q I h => thn (he.run pins s σ H _ I h) fun u s1 ⟨x, H1, I1, rx, d, xs, ex, q⟩ => ?_⟩
  rcases q with ⟨e, q⟩ | ⟨od, e, q⟩
  · obtain ⟨od, I2⟩ := I1.lock e trivial
    exact ⟨x, _, I2, rx, q od⟩
  · exact ⟨x, H1, I1, rx, q⟩
theorem dctF_run {f : Key × W → W} {J : Addr → Obj → List (Key × V) → It} {H H1 : Hp} {x : W} {v : V} {HW1 : HpW} {r : List W → (HpW → Prop) → HpW → Prop} {R : It → Hp → Prop}
    (n : ∀ ws gd HW' J H', TLe (om X A) H H' → RelH (om X A) HW' H' → ItOk (om X A) H' J ws gd → r ws gd HW' → R J H') (t1 : TLe (om X A) H H1) (rx : RelW (om X A) H1 x v) (rh1 : RelH (om X A) HW1 H1) (q : dctF x HW1 f r)
    (ij : ∀ {H0 : Hp} {d : Addr} {o : Obj} {xs : List (Key × V)} {kvs : List (Key × W)}, H0 d = some (.frz o (.dK xs)) → RelKs (om X A) H0 kvs xs → ItOk (om X A) H0 (J d o xs) (kvs.map f) (fun _ => True)) :
    ∃ d xs, v = .ref d ∧ ((H1 d = some (.dK xs) ∧ ∀ od, ∃ d' o kvs, v = .ref d' ∧ upd H1 d (.frz od (.dK xs)) d' = some (.frz o (.dK kvs)) ∧ R (J d' o kvs) (upd H1 d (.frz od (.dK xs)))) ∨ ∃ od, H1 d = some (.frz od (.dK xs)) ∧ ∃ d' o kvs, v = .ref d' ∧ H1 d' = some (.frz o (.dK kvs)) ∧ R (J d' o kvs) H1) := by
  cases x <;> first | (exact False.elim q; done) | skip
  rename_i a
  obtain rfl := rx.i_ref
  unfold dctF at q
  dsimp only at q
  cases ea : HW1 a with
  | none => rw [ea] at q; exact q.elim
  | some ob =>
    rw [ea] at q
    cases ob <;> first | (exact False.elim q; done) | skip
    · obtain ⟨xs, ex, ra⟩ := rh1 _ _ ea
      refine ⟨a, xs, rfl, .inl ⟨ex, fun od => ⟨a, od, xs, rfl, upd_same, ?_⟩⟩⟩
      have t : TLe (om X A) H1 (upd H1 a (.frz od (.dK xs))) := TLe.put ex trivial
      have ob : RelOb (om X A) (upd H1 a (.frz od (.dK xs))) a (.fdc _) := ⟨od, xs, upd_same, ra.mono t⟩
      exact n _ _ _ _ _ (t1.trans t) (rh1.put ex trivial ob) (ij upd_same (ra.mono t)) q
    · obtain ⟨od, xs, ex, ra⟩ := rh1 _ _ ea
      exact ⟨a, xs, rfl, .inr ⟨od, ex, a, od, xs, rfl, ex, n _ _ _ _ _ t1 rh1 (ij ex ra) q⟩⟩
theorem piw_vals {e : Expr} {te : TEW} {apos cpos : Pos} (he : PEw X A Wx e te) (hbase : attributeBase e "values" X.env (eval e X.env) = eval e X.env) (hline : (apos.endLine == cpos.line) = true) :
    PI X tg (.Call (.Attribute e "values" apos) [] [] cpos) (canI (om X A) Wx (fun σ H R E => te σ H (fun x H1 => dctF x H1 (fun kv => kv.2) R) E)) := by
  refine ⟨fun pins s σ H R I ⟨σW, HW, r, ee, rs, rh, h, n, xr⟩ => ?_⟩
  exact (pi_values (pe_lk he) hbase hline).run pins s σ H R I ⟨σW, HW, _, ee, rs, rh, h, fun x HW1 v H1 t1 rx rh1 q => dctF_run n t1 rx rh1 q it_vals, xr⟩
theorem piw_items {e : Expr} {te : TEW} {apos cpos tpos : Pos} {elts : List Expr} {kk : Nat} (he : PEw X A Wx e te) (hbase : attributeBase e "items" X.env (eval e X.env) = eval e X.env) (hline : (apos.endLine == cpos.line) = true) :
    PI X (.Tuple elts kk tpos) (.Call (.Attribute e "items" apos) [] [] cpos) (canI (om X A) Wx (fun σ H R E => te σ H (fun x H1 => dctF x H1 (fun kv => .tup [kW kv.1, kv.2]) R) E)) := by
  refine ⟨fun pins s σ H R I ⟨σW, HW, r, ee, rs, rh, h, n, xr⟩ => ?_⟩
  exact (pi_items (pe_lk he) hbase hline).run pins s σ H R I ⟨σW, HW, _, ee, rs, rh, h, fun x HW1 v H1 t1 rx rh1 q => dctF_run n t1 rx rh1 q it_items, xr⟩
theorem seqG_ok {H : Hp} {x : W} {v : V} {HW : HpW} {ws : List W} {gd : HpW → Prop} (rx : RelW (om X A) H x v) (rh : RelH (om X A) HW H) (e : seqG x HW = some (ws, gd)) : ∃ a xs, v = .ref a ∧ SqL X.K H a xs ∧ gd = fun H' => H' a = some (.lst ws) := by
  cases x <;> first | (cases e; done) | skip
  rename_i a
  obtain rfl := rx.i_ref
  unfold seqG at e
  dsimp only at e
  cases ea : HW a with
  | none => rw [ea] at e; cases e
  | some ob =>
    rw [ea] at e
    cases ob <;> first | (cases e; done) | skip
    cases e
    obtain ⟨xs, ex, ra⟩ := rh _ _ ea
    exact ⟨a, xs, rfl, SqL.of ex, rfl⟩
theorem piw_enum {e : Expr} {te : TEW} {tpos : Pos} {elts : List Expr} {kk : Nat} (hg : Gl X "enumerate") (hm : X.mg "enumerate" = none) (he : PEw X A Wx e te) (hs : starEach [e] X.env = [(false, eval e X.env)]) :
    PI X (.Tuple elts kk tpos) (.Call (.Name "enumerate" p) [e] [] pos) (canI (om X A) Wx (fun σ H R E => te σ H (fun x H1 => enumW x H1 R) E)) := by
  refine ⟨fun pins s σ H R I ⟨σW, HW, r, ee, rs, rh, h, n, xr⟩ => ?_⟩
  refine (pi_enum hg hm (pa_cons he pa_nil hs) hs).run pins s σ H R I ⟨σW, HW, _, ee, rs, rh, h, fun x HW1 v H1 t1 rx rh1 q => ?_, xr⟩
  replace q : enumW x HW1 r := q
  unfold enumW at q
  cases eg : seqG x HW1 with
  | none => rw [eg] at q; exact q.elim
  | some wg =>
    obtain ⟨ws, gd⟩ := wg
    rw [eg] at q
    obtain ⟨a, xs, rfl, sq, rfl⟩ := seqG_ok rx rh1 eg
    exact ⟨a, xs, rfl, sq, n _ _ _ _ _ t1 rh1 it_enum q⟩
theorem piw_zip {e e2 : Expr} {te tf : TEW} {tpos : Pos} {elts : List Expr} {kk : Nat} (hg : Gl X "zip") (hm : X.mg "zip" = none) (he : PEw X A Wx e te) (hf : PEw X A Wx e2 tf) (hs : starEach [e, e2] X.env = (false, eval e X.env) :: starEach [e2] X.env) (hs2 : starEach [e2] X.env = [(false, eval e2 X.env)]) :
    PI X (.Tuple elts kk tpos) (.Call (.Name "zip" p) [e, e2] [] pos) (canI (om X A) Wx (fun σ H R E => te σ H (fun x H1 => tf σ H1 (fun y H2 => zipW x y H2 R) E) E)) := by
  refine ⟨fun pins s σ H R I ⟨σW, HW, r, ee, rs, rh, h, n, xr⟩ => ?_⟩
  refine (pi_zip hg hm (pa_cons he (pa_cons hf pa_nil hs2) hs) hs (by rw [hs2]; rfl)).run pins s σ H R I ⟨σW, HW, _, ee, rs, rh, h, fun x HW1 v H1 t1 rx rh1 q => ⟨σW, HW1, _, ee, rs.mono t1, rh1, q, fun y HW2 u H2 t2 ry rh2 q => ?_, xr.later t1⟩, xr⟩
  replace q : zipW x y HW2 r := q
  unfold zipW at q
  cases eg : seqG x HW2 with
  | none => rw [eg] at q; exact q.elim
  | some wg =>
    obtain ⟨ws, gd⟩ := wg
    rw [eg] at q
    cases eh : seqG y HW2 with
    | none => rw [eh] at q; exact q.elim
    | some wh =>
      obtain ⟨us, gd'⟩ := wh
      rw [eh] at q
      obtain ⟨a, xs, rfl, sq, rfl⟩ := seqG_ok (rx.mono t2) rh2 eg
      obtain ⟨b, ys, rfl, sq', rfl⟩ := seqG_ok ry rh2 eh
      exact ⟨a, b, xs, ys, rfl, sq, sq', n _ _ _ _ _ (t1.trans t2) rh2 it_zip q⟩
theorem piw_rng1 {a : Expr} (hg : Gl X "range") (hm : X.mg "range" = none) (ha : PEw X A Wx a tl) (hs : starEach [a] X.env = [(false, eval a X.env)]) :
    PI X tg (.Call (.Name "range" p) [a] [] pos) (canI (om X A) Wx (fun σ H R E => tl σ H (fun x H1 => match x with
    | .int j => (-(2 ^ 62) ≤ j ∧ j < 2 ^ 62) ∧ R ((List.range j.toNat).map fun k : Nat => .int k) (fun _ => True) H1
    | _ => False) E)) := by
  refine ⟨fun pins s σ H R I ⟨σW, HW, r, ee, rs, rh, h, n, xr⟩ => ?_⟩
  refine (pi_range1 hg hm (pa_cons ha pa_nil hs) hs).run pins s σ H R I ⟨σW, HW, _, ee, rs, rh, h, fun x HW1 v H1 t1 rx rh1 q => ?_, xr⟩
  cases x <;> first | (exact False.elim q; done) | skip
  rename_i j
  obtain rfl := rx.i_int
  refine ⟨j, rfl, q.1.1, q.1.2, n _ _ _ _ _ t1 rh1 (it_rng (lo := 0) (n := j.toNat)) ?_⟩
  simp only [Int.zero_add]
  exact q.2
theorem piw_rng2 {a b : Expr} {tb : TEW} (hg : Gl X "range") (hm : X.mg "range" = none) (ha : PEw X A Wx a tl) (hb : PEw X A Wx b tb) (hs : starEach [a, b] X.env = [(false, eval a X.env), (false, eval b X.env)]) (hs2 : starEach [b] X.env = [(false, eval b X.env)]) :
    PI X tg (.Call (.Name "range" p) [a, b] [] pos) (canI (om X A) Wx (fun σ H R E => tl σ H (fun x H1 => tb σ H1 (fun y H2 => match x, y with
    | .int i, .int j => (-(2 ^ 62) ≤ i ∧ i < 2 ^ 62 ∧ -(2 ^ 62) ≤ j ∧ j < 2 ^ 62) ∧ R ((List.range (j - i).toNat).map fun k : Nat => .int (i + k)) (fun _ => True) H2
    | _, _ => False) E) E)) := by
  refine ⟨fun pins s σ H R I ⟨σW, HW, r, ee, rs, rh, h, n, xr⟩ => ?_⟩
  refine (pi_range2 hg hm (pa_cons ha (pa_cons hb pa_nil hs2) (by rw [hs, hs2])) hs hs2).run pins s σ H R I ⟨σW, HW, _, ee, rs, rh, h, fun x HW1 v H1 t1 rx rh1 q => ⟨σW, HW1, _, ee, rs.mono t1, rh1, q, fun y HW2 u H2 t2 ry rh2 q2 => ?_, xr.later t1⟩, xr⟩
  cases x <;> first | (exact False.elim q2; done) | skip
  cases y <;> first | (exact False.elim q2; done) | skip
  rename_i i j
  obtain rfl := rx.i_int
  obtain rfl := ry.i_int
  exact ⟨i, j, rfl, q2.1, n _ _ _ _ _ (t1.trans t2) rh2 it_rng q2.2⟩
/-! ### targets -/
abbrev TGW := W → StW → HpW → (StW → HpW → Prop) → Prop
def canG (Ω : Gd) (t : TGW) : TG := fun v σ H Q => ∃ w σW HW q, RelW Ω H w v ∧ RelS Ω H σW σ ∧ RelH Ω HW H ∧ t w σW HW q ∧ ∀ σW' HW' σ' H', TLe Ω H H' → RelS Ω H' σW' σ' → RelH Ω HW' H' → q σW' HW' → Q σ' H'
theorem pgwW {t t' : TG} (h : PG X tg t) (w : ∀ v σ H Q, t' v σ H Q → t v σ H Q) : PG X tg t' := ⟨fun pins s σ H v u Q I r q => h.run pins s σ H v u Q I r (w _ _ _ _ q)⟩
theorem pgw_bad : PG X tg (canG (om X A) (fun _ _ _ _ => False)) := ⟨fun _ _ _ _ _ _ _ _ _ ⟨_, _, _, _, _, _, _, h, _⟩ => h.elim⟩
theorem pgw_name {i : Nat} {x : Str} (hN : X.N.Nodup) (hi : X.N[i]? = some x) (hx : Loc X.env.scope x) (hf : X.fn x = true ∨ X.env.scope.names.lookup x = some .local) : PG X (.Name x pos) (canG (om X A) (fun w σ H Q => Q (σ.set i (some w)) H)) :=
  pgwW (pg_name hN hi hx hf) fun v σ H Q ⟨w, σW, HW, q, rw1, rs, rh, h, n⟩ => n _ _ _ _ TLe.refl (rs.set rw1 i) rh h
abbrev TGsW := List W → StW → HpW → (StW → HpW → Prop) → Prop
def canGs (Ω : Gd) (t : TGsW) : TGs := fun vs σ H Q => ∃ ws σW HW q, RelWs Ω H ws vs ∧ RelS Ω H σW σ ∧ RelH Ω HW H ∧ t ws σW HW q ∧ ∀ σW' HW' σ' H', TLe Ω H H' → RelS Ω H' σW' σ' → RelH Ω HW' H' → q σW' HW' → Q σ' H'
theorem pgsw_nil : PGs X [] (canGs (om X A) (fun ws σ H Q => ws = [] ∧ Q σ H)) := ⟨fun pins s σ H vs us Q I r ⟨ws, σW, HW, q, rw1, rs, rh, ⟨e, h⟩, n⟩ => by
  subst e
  exact pgs_nil.run pins s σ H vs us Q I r ⟨rw1.inv_nil, n _ _ _ _ TLe.refl rs rh h⟩⟩
theorem pgsw_bad {es : List Expr} : PGs X es (canGs (om X A) (fun _ _ _ _ => False)) := ⟨fun _ _ _ _ _ _ _ _ _ ⟨_, _, _, _, _, _, _, h, _⟩ => h.elim⟩
theorem pgsw_cons {e : Expr} {es : List Expr} {t : TGW} {u : TGsW} (h1 : PG X e (canG (om X A) t)) (h2 : PGs X es (canGs (om X A) u)) (hs : (assignEach (e :: es) X.env).map (·.2) = assign e X.env :: (assignEach es X.env).map (·.2)) :
    PGs X (e :: es) (canGs (om X A) (fun ws σ H Q => match ws with
    | w :: q => t w σ H fun σ' H' => u q σ' H' Q
    | [] => False)) := ⟨fun pins s σ H vs us Q I r ⟨ws, σW, HW, q, rw1, rs, rh, h, n⟩ => by
  cases ws with
  | nil => exact h.elim
  | cons w ws =>
    obtain ⟨v, vr, rfl, r1, r2⟩ := rw1.inv_cons
    exact (pgs_cons h1 h2 hs).run pins s σ H _ us Q I r ⟨v, vr, rfl, w, σW, HW, _, r1, rs, rh, h, fun σW' HW' σ' H' t rs' rh' z => ⟨ws, σW', HW', q, r2.mono t, rs', rh', z, fun a b c d e => n a b c d (t.trans e)⟩⟩⟩
theorem pgw_tup {es : List Expr} {k : Nat} {t : TGsW} (hc : X.calm = true) (h : PGs X es (canGs (om X A) t)) (hn : (assignEach es X.env).length = es.length) (hst : (assignEach es X.env).findIdx? (·.1) = none)
    (hlen : ∀ ws σ H Q, t ws σ H Q → ws.length = es.length) :
    PG X (.Tuple es k pos) (canG (om X A) (fun w σ H Q => match w with
    | .tup ws => t ws σ H Q
    | _ => False)) := pgwW (pg_tup hc h hn hst) fun v σ H Q ⟨w, σW, HW, q, rw1, rs, rh, h, n⟩ => by
  cases w <;> first | (exact False.elim h; done) | skip
  obtain ⟨a, xs, rfl, sa, ra⟩ := rw1.i_tup
  exact ⟨a, xs, rfl, sa, by rw [← ra.length]; exact hlen _ _ _ _ h, _, σW, HW, q, ra, rs, rh, h, n⟩
end
end Uw

namespace Uw
open PySem PySem.Spec PyProof.Rows L2
abbrev PSw (X : Cx) (A : Ad) (Wx : WX) (st : Stmt) (t : TSW) : Prop := PS X st (canS (om X A) Wx t)
abbrev PSsw (X : Cx) (A : Ad) (Wx : WX) (st : List Stmt) (t : TSW) : Prop := PSs X st (canS (om X A) Wx t)
/-- in a comprehension nothing is raised -/
abbrev WF : WX := fun _ _ _ _ => False
theorem takesF {X : Cx} (h : X.xe = fun _ _ => False) : Takes X WF := fun u s' x => by
  obtain ⟨_, _, _, _, _, _, _, _, _, _, _, _, _, _, _, _, z⟩ := x
  exact z.elim
theorem xrmF {Ω : Gd} {H : Hp} {σ : L2.St} : Xrm Ω H (fun _ _ => False) (fun c d H' => WF c d σ H') := fun _ _ _ _ _ _ _ _ z => z
/-! ### comprehensions -/
theorem lc_weak {Ω : Gd} {Wx : WX} {ti : TIW} {tt : TTW} {te : TEW} {i : Nat} {σ : L2.St} {H : Hp} {Q : VK}
    (h : canE Ω Wx (fun σ H Q E => ti σ H (fun ws gd H1 => ∀ D, H1 D = none → lcW (σ.set i none) i tt te D gd (fun H' => Q (.ref D) H') ws (updW H1 D (.lst []))) E) σ H Q) :
    tLc (canI Ω Wx ti) (gName i) (canT Ω WF tt) (canE Ω WF te) [i] σ H Q := by
  obtain ⟨σW, HW, q, ee, rs, rh, h, n, xr⟩ := h
  refine ⟨σW, HW, _, ee, rs, rh, h, fun ws gd HW1 J H1 t1 rh1 it hq D hD => ?_, xr⟩
  have hq := hq D (rh1.free hD)
  have tD : TLe Ω H1 (upd H1 D (.lst [])) := TLe.new hD
  refine ⟨fun j m H' => ∃ HW', m = ws.length - j ∧ j ≤ ws.length ∧ TLe Ω H1 H' ∧ RelH Ω HW' H' ∧ lcW (σW.set i none) i tt te D gd (fun H' => q (.ref D) H') (ws.drop j) HW', ⟨ws.length, _, rfl, Nat.zero_le _, tD, rh1.newL hD .nil, hq⟩, ?_⟩
  rintro j m H' ⟨HW', rfl, hj, t2, rh2, hl⟩
  by_cases hlt : j < ws.length
  · have ed : ws.drop j = ws[j] :: ws.drop (j + 1) := List.drop_eq_getElem_cons hlt
    rw [ed] at hl
    obtain ⟨hg, hl⟩ := hl
    obtain ⟨go, yl⟩ := it.go j HW' H' ws[j] t2 rh2 hg (List.getElem?_eq_getElem hlt)
    refine .inr ⟨go, fun H'' => ∃ HW'', TLe Ω H1 H'' ∧ RelH Ω HW'' H'' ∧ lcW (σW.set i none) i tt te D gd (fun H' => q (.ref D) H') (ws.drop (j + 1)) HW'', fun H'' ⟨HW'', a, b, c⟩ => ⟨ws.length - (j + 1), by omega, HW'', rfl, hlt, a, b, c⟩, fun x H3 y => ?_⟩
    obtain ⟨t3, rh3, rx⟩ := yl x H3 y
    have t13 := (t1.trans t2).trans t3
    refine ⟨by show ((σ.set i none).set i (some x)).set i none = σ.set i none; rw [List.set_set, List.set_set], (σW.set i none).set i (some ws[j]), HW', _, _, ?_, rh3, hl, fun b HW4 H4 t4 rh4 h4 => ?_, xrmF⟩
    · exact RelS.set rx i ((rs.mono t13).unset i none)
    · cases b with
      | false => exact ⟨HW4, (t2.trans t3).trans t4, rh4, h4⟩
      | true =>
        refine ⟨(σW.set i none).set i (some ws[j]), HW4, _, _, RelS.set (rx.mono t4) i ((rs.mono (t13.trans t4)).unset i none), rh4, h4, fun y HW5 v5 H5 t5 r5 rh5 h5 => ?_, xrmF⟩
        obtain ⟨acc, ea, hz, h5⟩ := h5
        obtain ⟨xs, ex, ra⟩ := rh5 _ _ ea
        refine ⟨xs, ex, by rw [← ra.length]; exact hz, _, ?_, rh5.putL ex (ra.append (.cons r5 .nil)), h5⟩
        exact (((t2.trans t3).trans t4).trans t5).trans (TLe.put ex trivial)
  · have e : j = ws.length := by omega
    subst e
    rw [List.drop_eq_nil_of_le (Nat.le_refl _)] at hl
    obtain ⟨hg, hl⟩ := hl
    exact .inl ⟨it.stop _ HW' H' t2 rh2 hg (Nat.le_refl _), n _ _ _ _ (t1.trans t2) .ref rh2 hl⟩
section
variable {X : Cx} {A : Ad} {Wx : WX} {G : GT} {n : Nat} {c : CallW}
variable {a b e o : Expr} {es : List Expr} {ta tb te to ti : TEW} {tt : TTW} {ts tz : TAW} {pos p pos' apos : Pos} {st : Stmt} {rest body : List Stmt} {t u : TSW}
theorem psw_bad : PSw X A Wx st (fun _ _ _ => False) := ⟨fun _ _ _ _ _ _ ⟨_, _, _, _, _, h, _⟩ => h.elim⟩
theorem pssw_bad : PSsw X A Wx rest (fun _ _ _ => False) := ⟨fun _ _ _ _ _ _ ⟨_, _, _, _, _, h, _⟩ => h.elim⟩
theorem pssw_nil : PSsw X A Wx [] (fun D σ H => D.nx σ H) := pssW pss_nil fun D σ H ⟨σW, HW, DW, rs, rh, h, er⟩ => er.nx _ _ _ _ TLe.refl rs rh h
theorem pssw_cons (h1 : PSw X A Wx st t) (h2 : PSsw X A Wx rest u) : PSsw X A Wx (st :: rest) (fun D σ H => t { D with nx := u D } σ H) :=
  pssW (pss_cons h1 h2) fun D σ H ⟨σW, HW, DW, rs, rh, h, er⟩ => ⟨σW, HW, { DW with nx := u DW }, rs, rh, h, ⟨fun σW' HW' σ' H' t1 rs1 rh1 z => ⟨σW', HW', DW, rs1, rh1, z, er.later t1⟩, er.rt, er.bk, er.ct, er.ex⟩⟩
theorem psw_pass : PSw X A Wx (.Pass pos) (fun D σ H => D.nx σ H) := psW ps_pass fun D σ H ⟨σW, HW, DW, rs, rh, h, er⟩ => er.nx _ _ _ _ TLe.refl rs rh h
theorem psw_brk : PSw X A Wx (.Break pos) (fun D σ H => D.bk σ H) := psW ps_break fun D σ H ⟨σW, HW, DW, rs, rh, h, er⟩ => er.bk _ _ _ _ TLe.refl rs rh h
theorem psw_cnt : PSw X A Wx (.Continue pos) (fun D σ H => D.ct σ H) := psW ps_continue fun D σ H ⟨σW, HW, DW, rs, rh, h, er⟩ => er.ct _ _ _ _ TLe.refl rs rh h
theorem psw_expr (he : PEw X A Wx e te) (hs : swapsWith e none pos.line X.env = pure false) : PSw X A Wx (.Expr e pos) (fun D σ H => te σ H (fun _ H1 => D.nx σ H1) fun x H1 => D.ex x σ H1) :=
  psW (ps_expr he hs) fun D σ H ⟨σW, HW, DW, rs, rh, h, er⟩ => ⟨σW, HW, _, _, rs, rh, h, fun w HW1 v H1 t1 _ rh1 z => er.nx _ _ _ _ t1 (rs.mono t1) rh1 z, er.xrm rs⟩
theorem psw_ret (he : PEw X A Wx e te) : PSw X A Wx (.Return (some e) pos) (fun D σ H => te σ H D.rt fun x H1 => D.ex x σ H1) :=
  psW (ps_ret he) fun D σ H ⟨σW, HW, DW, rs, rh, h, er⟩ => ⟨σW, HW, _, _, rs, rh, h, er.rt, er.xrm rs⟩
theorem psw_retn : PSw X A Wx (.Return none pos) (fun D _ H => D.rt .non H) := psW ps_retN fun D σ H ⟨σW, HW, DW, rs, rh, h, er⟩ => er.rt.here .non rh h
theorem psw_if {cc : Expr} {aa bb : List Stmt} (hc : PTw X A Wx cc tt) (ha : PSsw X A Wx aa t) (hb : PSsw X A Wx bb u) : PSw X A Wx (.If cc aa bb pos) (fun D σ H => tt σ H (fun k H1 => if k = true then t D σ H1 else u D σ H1) fun x H1 => D.ex x σ H1) :=
  psW (ps_if hc ha hb) fun D σ H ⟨σW, HW, DW, rs, rh, h, er⟩ => ⟨σW, HW, _, _, rs, rh, h, fun k HW1 H1 t1 rh1 z => by
    cases k with
    | true => exact ⟨σW, HW1, DW, rs.mono t1, rh1, z, er.later t1⟩
    | false => exact ⟨σW, HW1, DW, rs.mono t1, rh1, z, er.later t1⟩, er.xrm rs⟩
theorem psw_asg {g : Expr} {tg : TGW} (he : PEw X A Wx e te) (hg : PG X g (canG (om X A) tg)) (hs : swapsWithSole [g] e pos.line X.env = pure false) (hw : swappedStores [g] e X.env = pure none) (h1 : (assignEach [g] X.env).map (·.2) = [assign g X.env]) :
    PSw X A Wx (.Assign [g] e pos) (fun D σ H => te σ H (fun x H1 => tg x σ H1 D.nx) fun x H1 => D.ex x σ H1) :=
  psW (ps_asg he hg hs hw h1) fun D σ H ⟨σW, HW, DW, rs, rh, h, er⟩ => ⟨σW, HW, _, _, rs, rh, h, fun w HW1 v H1 t1 rw1 rh1 z => ⟨w, σW, HW1, _, rw1, rs.mono t1, rh1, z, fun σW' HW' σ' H' t2 rs2 rh2 z2 => er.nx _ _ _ _ (t1.trans t2) rs2 rh2 z2⟩, er.xrm rs⟩
theorem psw_asgn {i : Nat} {x : Str} (hN : X.N.Nodup) (hi : X.N[i]? = some x) (hx : Loc X.env.scope x) (hf : X.fn x = true ∨ X.env.scope.names.lookup x = some .local) (he : PEw X A Wx e te) (hs : swapsWith e (some (.Name x pos')) pos.line X.env = pure false) :
    PSw X A Wx (.Assign [.Name x pos'] e pos) (fun D σ H => te σ H (fun w H1 => D.nx (σ.set i (some w)) H1) fun x H1 => D.ex x σ H1) :=
  psW (ps_set hN hi hx he hs hf) fun D σ H ⟨σW, HW, DW, rs, rh, h, er⟩ => ⟨σW, HW, _, _, rs, rh, h, fun w HW1 v H1 t1 rw1 rh1 z => er.nx _ _ _ _ t1 (RelS.set rw1 i (rs.mono t1)) rh1 z, er.xrm rs⟩
theorem putFW_ok {Ω : Gd} {H : Hp} {f : Str} {w : W} {v : V} (r : RelW Ω H w v) : ∀ {l : List (Str × W)} {s : List (Str × V)}, RelKs Ω H l s → RelKs Ω H (putFW f w l) (putF f v s)
  | [], s, h => by rw [show s = [] from h]; exact ⟨v, [], rfl, r, rfl⟩
  | (k, w') :: l, _, ⟨v', q, rfl, a, h⟩ => by
    unfold putFW putF
    by_cases e : k = f
    · rw [if_pos e, if_pos e]
      exact ⟨v, q, rfl, r, h⟩
    · rw [if_neg e, if_neg e]
      exact ⟨v', putF f v q, rfl, a, putFW_ok r h⟩
theorem psw_seta {f : Str} {apos : Pos} (gf : GF X.w X.K X.mg A G) (ho : PEw X A Wx o to) (he : PEw X A Wx e te) (hs : swapsWith e (some (.Attribute o f apos)) pos.line X.env = pure false) :
    PSw X A Wx (.Assign [.Attribute o f apos] e pos) (fun D σ H => te σ H (fun y H1 => to σ H1 (fun x H2 => match x with
    | .ref p => (match H2 p with
      | some (.ins c fs) => (match G.cl c with
        | some ci => f ∈ ci.flds ∧ fs.length < 1000 ∧ D.nx σ (updW H2 p (.ins c (putFW f y fs)))
        | none => False)
      | _ => False)
    | _ => False) fun x H1 => D.ex x σ H1) fun x H1 => D.ex x σ H1) :=
  psW (ps_fld ho he hs) fun D σ H ⟨σW, HW, DW, rs, rh, h, er⟩ => ⟨σW, HW, _, _, rs, rh, h, fun y HW1 v H1 t1 ry rh1 z => ⟨σW, HW1, _, _, rs.mono t1, rh1, z, fun x HW2 u H2 t2 rx rh2 q1 => by
    cases x <;> first | (exact False.elim q1; done) | skip
    rename_i p
    obtain rfl := rx.i_ref
    dsimp only at q1
    cases ep : HW2 p with
    | none => rw [ep] at q1; exact q1.elim
    | some ob =>
      rw [ep] at q1
      cases ob <;> first | (exact False.elim q1; done) | skip
      rename_i c' fs
      dsimp only at q1
      obtain ⟨dx, xs, ex, rf⟩ := rh2 _ _ ep
      cases ec : G.cl c' with
      | none => rw [ec] at q1; exact q1.elim
      | some ci =>
        rw [ec] at q1
        obtain ⟨hf, hl, q1⟩ := q1
        have t3 := TLe.put (Ω := om X A) (o := HO.ins (A.ca c') dx (putF f v xs)) ex trivial
        refine ⟨p, _, dx, xs, rfl, ex, (gf.cls c' ci ec).1, gf.fld c' ci ec f hf, by rw [← RelKs.len rf]; exact hl, er.nx _ _ _ _ ((t1.trans t2).trans t3) (rs.mono ((t1.trans t2).trans t3)) ?_ q1⟩
        exact rh2.putI ex (putFW_ok (ry.mono t2) rf), (er.later t1).xrm (rs.mono t1)⟩, er.xrm rs⟩
/-! ### while, for -/
theorem psw_whl {cc : Expr} (hp : PassesOwn (model X.prog X.w) X.A X.env X.xe) (hc : PTw X A Wx cc tt) (hb : PSsw X A Wx body t) : PSw X A Wx (.While cc body [] pos) (fun D σ H => ∃ m, whlW tt t D m σ H) :=
  psW (ps_while hp hc hb) fun D σ H ⟨σW, HW, DW, rs, rh, ⟨m, h⟩, er⟩ => by
    refine ⟨fun m σ' H' => ∃ σW' HW', TLe (om X A) H H' ∧ RelS (om X A) H' σW' σ' ∧ RelH (om X A) HW' H' ∧ whlW tt t DW m σW' HW', ⟨m, σW, HW, TLe.refl, rs, rh, h⟩, ?_⟩
    rintro m σ1 H1 ⟨σW1, HW1, t1, rs1, rh1, h1⟩
    cases m with
    | zero => exact h1.elim
    | succ m =>
      refine ⟨σW1, HW1, _, _, rs1, rh1, h1, fun k HW2 H2 t2 rh2 h2 => ?_, (er.later t1).xrm rs1⟩
      have t12 := t1.trans t2
      cases k with
      | false => exact er.nx _ _ _ _ t12 (rs1.mono t2) rh2 h2
      | true =>
        refine ⟨fun σ' H' => ∃ σW' HW', TLe (om X A) H H' ∧ RelS (om X A) H' σW' σ' ∧ RelH (om X A) HW' H' ∧ whlW tt t DW m σW' HW', fun σ' H' z => ⟨m, Nat.lt_succ_self m, z⟩, σW1, HW2, _, rs1.mono t2, rh2, h2, ?_⟩
        exact ⟨fun a b c d e f g h => ⟨a, b, t12.trans e, f, g, h⟩, er.rt.later t12, fun a b c d e => er.nx a b c d (t12.trans e), fun a b c d e f g h => ⟨a, b, t12.trans e, f, g, h⟩, fun a b c d e f g h => er.ex a b c d e f g (t12.trans h)⟩
theorem psw_for {tg iter : Expr} {tI : TIW} {gg : TGW} (hp : PassesOwn (model X.prog X.w) X.A X.env X.xe) (hc : X.calm = true) (hi : PI X tg iter (canI (om X A) Wx tI)) (hg : PG X tg (canG (om X A) gg)) (hb : PSsw X A Wx body t)
    (hs : ∀ x, foldedSetIterable iter X.env x = pure x) : PSw X A Wx (.For tg iter body [] pos) (fun D σ H => tI σ H (fun ws gd H1 => forW gg t D gd ws σ H1) fun x H1 => D.ex x σ H1) :=
  psW (ps_for hp hc hi hg hb hs) fun D σ H ⟨σW, HW, DW, rs, rh, h, er⟩ => by
    refine ⟨σW, HW, _, _, rs, rh, h, fun ws gd HW1 J H1 t1 rh1 it hq => ?_, er.xrm rs⟩
    refine ⟨fun i m σ' H' => ∃ σW' HW', m = ws.length - i ∧ i ≤ ws.length ∧ TLe (om X A) H1 H' ∧ RelS (om X A) H' σW' σ' ∧ RelH (om X A) HW' H' ∧ forW gg t DW gd (ws.drop i) σW' HW', ⟨ws.length, σW, HW1, rfl, Nat.zero_le _, TLe.refl, rs.mono t1, rh1, hq⟩, ?_⟩
    rintro i m σ2 H2 ⟨σW2, HW2, rfl, hi, t2, rs2, rh2, hl⟩
    have t12 := t1.trans t2
    by_cases hlt : i < ws.length
    · have ed : ws.drop i = ws[i] :: ws.drop (i + 1) := List.drop_eq_getElem_cons hlt
      rw [ed] at hl
      obtain ⟨hg, hl⟩ := hl
      obtain ⟨go, yl⟩ := it.go i HW2 H2 ws[i] t2 rh2 hg (List.getElem?_eq_getElem hlt)
      refine .inr ⟨go, fun σ' H' => ∃ σW' HW', TLe (om X A) H1 H' ∧ RelS (om X A) H' σW' σ' ∧ RelH (om X A) HW' H' ∧ forW gg t DW gd (ws.drop (i + 1)) σW' HW', fun σ' H' ⟨a, b, c, d, e, f⟩ => ⟨ws.length - (i + 1), by omega, a, b, rfl, hlt, c, d, e, f⟩, fun x H3 y => ?_⟩
      obtain ⟨t3, rh3, rx⟩ := yl x H3 y
      refine ⟨ws[i], σW2, HW2, _, rx, rs2.mono t3, rh3, hl, fun σW4 HW4 σ4 H4 t4 rs4 rh4 h4 => ⟨σW4, HW4, _, rs4, rh4, h4, ?_⟩⟩
      have t24 := (t2.trans t3).trans t4
      have t14 := t1.trans t24
      exact ⟨fun a b c d e f g h => ⟨a, b, t24.trans e, f, g, h⟩, er.rt.later t14, fun a b c d e => er.nx a b c d (t14.trans e), fun a b c d e f g h => ⟨a, b, t24.trans e, f, g, h⟩, fun a b c d e f g h => er.ex a b c d e f g (t14.trans h)⟩
    · have e : i = ws.length := by omega
      subst e
      rw [List.drop_eq_nil_of_le (Nat.le_refl _)] at hl
      obtain ⟨hg, hl⟩ := hl
      exact .inl ⟨it.stop _ HW2 H2 t2 rh2 hg (Nat.le_refl _), er.nx _ _ _ _ t12 rs2 rh2 hl⟩
/-! ### stores by place -/
theorem RelKs.put {κ : Type} [DecidableEq κ] {Ω : Gd} {H : Hp} {k : κ} {w : W} {v : V} (r : RelW Ω H w v) {l : List (κ × W)} {s : List (κ × V)} (h : RelKs Ω H l s) : RelKs Ω H (putW l k w) (putK s k v) := by
  have any : ∀ {l : List (κ × W)} {s : List (κ × V)}, RelKs Ω H l s → (l.any fun kv => decide (kv.1 = k)) = (s.any fun kv => decide (kv.1 = k)) := by
    intro l
    induction l with
    | nil => intro s h; rw [show s = [] from h]; rfl
    | cons x l ih =>
      obtain ⟨k', w'⟩ := x
      rintro s ⟨v', q, rfl, _, h⟩
      rw [List.any_cons, List.any_cons, ih h]
  have mp : ∀ {l : List (κ × W)} {s : List (κ × V)}, RelKs Ω H l s → RelKs Ω H (l.map fun kv => if kv.1 = k then (kv.1, w) else kv) (s.map fun kv => if kv.1 = k then (kv.1, v) else kv) := by
    intro l
    induction l with
    | nil => intro s h; rw [show s = [] from h]; rfl
    | cons x l ih =>
      obtain ⟨k', w'⟩ := x
      rintro s ⟨v', q, rfl, a, h⟩
      rw [List.map_cons, List.map_cons]
      by_cases e : k' = k
      · simp only [e, if_true]; exact ⟨v, _, rfl, r, ih h⟩
      · simp only [e, if_false]; exact ⟨v', _, rfl, a, ih h⟩
  have ap : ∀ {l : List (κ × W)} {s : List (κ × V)}, RelKs Ω H l s → RelKs Ω H (l ++ [(k, w)]) (s ++ [(k, v)]) := by
    intro l
    induction l with
    | nil => intro s h; rw [show s = [] from h]; exact ⟨v, [], rfl, r, rfl⟩
    | cons x l ih =>
      obtain ⟨k', w'⟩ := x
      rintro s ⟨v', q, rfl, a, h⟩
      exact ⟨v', _, rfl, a, ih h⟩
  unfold putW putK
  rw [any h]
  split
  · exact mp h
  · exact ap h
def canSet (Ω : Gd) : TSet := fun o i v H Q => ∃ x y z HW q, RelW Ω H x o ∧ RelW Ω H y i ∧ RelW Ω H z v ∧ RelH Ω HW H ∧ setsW x y z HW q ∧ ∀ HW' H', TLe Ω H H' → RelH Ω HW' H' → q HW' → Q H'
theorem set_any (hu : X.A.units + 1 < cLine) : PSet X (canSet (om X A)) := by
  intro pins s σ H ov iv vv o' i' v' Q I r1 r2 r3 ⟨x, y, z, HW, q, rx, ry, rz, rh, h, n⟩
  cases x <;> first | (exact False.elim h; done) | skip
  rename_i a
  obtain rfl := rx.i_ref
  unfold setsW at h
  dsimp only at h
  cases ea : HW a with
  | none => rw [ea] at h; exact h.elim
  | some ob =>
    rw [ea] at h
    cases ob with
    | lst ws =>
      cases y with
      | int k =>
        obtain rfl := ry.i_int
        obtain ⟨xs, ex, ra⟩ := rh _ _ ea
        dsimp only at h
        cases ej : ixN ws.length k with
        | none => rw [ej] at h; exact h.elim
        | some j =>
          rw [ej] at h
          rw [ra.length] at ej
          exact set_list pins s σ H _ _ _ o' i' v' Q I r1 r2 r3 ⟨a, xs, k, j, rfl, rfl, ex, ej, n _ _ (TLe.put ex trivial) (rh.putL ex (ra.set rz j)) h⟩
      | _ => exact False.elim h
    | dct kvs =>
      dsimp only at h
      cases ek : keyW y with
      | none => rw [ek] at h; exact h.elim
      | some k =>
        rw [ek] at h
        obtain ⟨h1, h2⟩ := h
        obtain ⟨xs, ex, ra⟩ := rh _ _ ea
        obtain rfl := key_ok ry ek
        obtain rfl : o' = Value.ref a := r1
        exact d_setItem hu I (DPut.k ex (by rw [← RelKs.len ra]; exact h1)) r2 r3 fun s4 I4 => ⟨_, I4, n _ _ (TLe.put ex trivial) (rh.putD ex (RelKs.put rz ra)) h2⟩
    | fdc _ => exact h.elim
    | ins _ _ => exact h.elim
    | xd _ => exact h.elim
theorem psw_sets {i : Expr} {spos : Pos} (hu : X.A.units + 1 < cLine) (he : PEw X A Wx e te) (ho : PEw X A Wx o to) (hi : PEw X A Wx i ti) (hs : swapsWithSole [.Subscript o i spos] e pos.line X.env = pure false) (hw : swappedStores [.Subscript o i spos] e X.env = pure none)
    (h1 : (assignEach [.Subscript o i spos] X.env).map (·.2) = [assign (.Subscript o i spos) X.env])
    (hsub : ∀ v, assign (.Subscript o i spos) X.env v = (do
      let ov ← holding [v] (eval o X.env)
      let iv ← holding [v, ov] (eval i X.env)
      standAt spos
      holding [v, ov, iv] (setItem ov iv v)
      release [v, ov, iv] [])) :
    PSw X A Wx (.Assign [.Subscript o i spos] e pos) (fun D σ H => te σ H (fun v H1 => to σ H1 (fun x H2 => ti σ H2 (fun y H3 => setsW x y v H3 fun H4 => D.nx σ H4) fun x H1 => D.ex x σ H1) fun x H1 => D.ex x σ H1) fun x H1 => D.ex x σ H1) :=
  psW (ps_asg he (pg_sub ho hi (set_any hu) hsub) hs hw h1) fun D σ H ⟨σW, HW, DW, rs, rh, h, er⟩ => ⟨σW, HW, _, _, rs, rh, h, fun z HW1 v H1 t1 rz rh1 h1 => ⟨σW, HW1, _, _, rs.mono t1, rh1, h1, fun x HW2 u H2 t2 rx rh2 h2 => ⟨σW, HW2, _, _, rs.mono (t1.trans t2), rh2, h2,
    fun y HW3 u3 H3 t3 ry rh3 h3 => ⟨x, y, z, HW3, _, rx.mono t3, ry, (rz.mono t2).mono t3, rh3, h3, fun HW4 H4 t4 rh4 h4 => er.nx _ _ _ _ (((t1.trans t2).trans t3).trans t4) (rs.mono (((t1.trans t2).trans t3).trans t4)) rh4 h4⟩, (er.later (t1.trans t2)).xrm (rs.mono (t1.trans t2))⟩, (er.later t1).xrm (rs.mono t1)⟩, er.xrm rs⟩
/-- name op= e, ints -/
theorem psw_augn {i : Nat} {x : Str} {op : Operator} (hop : op = .Add ∨ op = .Sub) (hN : X.N.Nodup) (hi : X.N[i]? = some x) (hx : Loc X.env.scope x) (he : PEw X A Wx e te) (hf : X.fn x = true ∨ X.env.scope.names.lookup x = some .local) :
    PSw X A Wx (.AugAssign (.Name x pos') op e pos) (fun D σ H => match sg σ i with
    | some (.int x) => te σ H (fun y H1 => match (generalizing := false) op, y with
      | .Add, .int z => D.nx (σ.set i (some (.int (x + z)))) H1
      | .Sub, .int z => D.nx (σ.set i (some (.int (x - z)))) H1
      | _, _ => False) fun x H1 => D.ex x σ H1
    | _ => False) := by
  have go : ∀ {f : Int → Int → Int}, PIp X op (ipI f) → (∀ (z0 z : Int) (q : StW → HpW → Prop) (σW : StW) (HW : HpW) (y : W), (match (generalizing := false) op, y with
      | .Add, .int z => q (σW.set i (some (.int (z0 + z)))) HW
      | .Sub, .int z => q (σW.set i (some (.int (z0 - z)))) HW
      | _, _ => False) → ∃ z, y = .int z ∧ q (σW.set i (some (.int (f z0 z)))) HW) → PSw X A Wx (.AugAssign (.Name x pos') op e pos) (fun D σ H => match sg σ i with
    | some (.int x) => te σ H (fun y H1 => match (generalizing := false) op, y with
      | .Add, .int z => D.nx (σ.set i (some (.int (x + z)))) H1
      | .Sub, .int z => D.nx (σ.set i (some (.int (x - z)))) H1
      | _, _ => False) fun x H1 => D.ex x σ H1
    | _ => False) := fun {f} ip hh => psW (ps_aug hN hi hx he ip hf) fun D σ H ⟨σW, HW, DW, rs, rh, h, er⟩ => by
    dsimp only at h
    cases es : sg σW i with
    | none => rw [es] at h; exact h.elim
    | some w =>
      rw [es] at h
      cases w with
      | int z0 =>
        obtain ⟨v, e1, e2⟩ := rs.get (sg_eq es)
        obtain rfl := e2.i_int
        refine ⟨_, e1, σW, HW, _, _, rs, rh, h, fun y HW1 v H1 t1 ry rh1 h1 => ?_, er.xrm rs⟩
        obtain ⟨z, rfl, h2⟩ := hh z0 0 DW.nx σW HW1 y h1
        obtain rfl := ry.i_int
        exact ⟨_, _, rfl, rfl, er.nx _ _ _ _ t1 (RelS.set .int i (rs.mono t1)) rh1 h2⟩
      | _ => exact h.elim
  rcases hop with rfl | rfl
  · exact go ip_add fun z0 _ q σW HW y h => by
      cases y <;> first | (exact False.elim h; done) | exact ⟨_, rfl, h⟩
  · exact go ip_sub fun z0 _ q σW HW y h => by
      cases y <;> first | (exact False.elim h; done) | exact ⟨_, rfl, h⟩
end
end Uw

namespace Uw
open PySem PySem.Spec PyProof.Rows L2
section
variable {X : Cx} {A : Ad} {Wx : WX} {G : GT}
variable {a b e o i : Expr} {es : List Expr} {ta tb te to ti : TEW} {tt : TTW} {ts tz : TAW} {pos p pos' apos tpos : Pos}
/-! ### o[i] op= e -/
theorem get_lst : PGet X (canOp (om X A) idxL) := by
  intro pins s σ H v u vv uu Q I r1 r2 ⟨x, y, HW, q, rx, ry, rh, h, n⟩
  cases x <;> first | (exact False.elim h; done) | skip
  rename_i a
  obtain rfl := rx.i_ref
  unfold idxL at h
  dsimp only at h
  cases ea : HW a with
  | none => rw [ea] at h; exact h.elim
  | some ob =>
    rw [ea] at h
    cases ob <;> first | (exact False.elim h; done) | skip
    rename_i ws
    dsimp only at h
    cases y <;> first | (exact False.elim h; done) | skip
    rename_i k
    dsimp only at h
    obtain rfl := ry.i_int
    cases ej : atI ws k with
    | none => rw [ej] at h; exact h.elim
    | some w =>
      rw [ej] at h
      obtain ⟨xs, ex, ra⟩ := rh _ _ ea
      obtain ⟨z, e1, e2⟩ := ra.atI ej
      obtain rfl : vv = Value.ref a := r1
      obtain ⟨t, rfl⟩ := r2
      obtain ⟨its, r, pl, hz⟩ := I.list (SqL.of ex)
      obtain ⟨j, h1, h2, h3, h4, h5⟩ := atI_get e1
      obtain ⟨w', ew, rw'⟩ := r.get h2
      have hl := r.length
      have hn := line63
      have fin : EP X pins σ Q w' s := ⟨z, H, I, rw', n.here e2 rh h⟩
      by_cases h0 : 0 ≤ k
      · have hj : k.toNat = j := by
          rw [seqIndex_of h0 h5] at h1
          exact Option.some.inj h1
        exact wpAny_getItem_list pl.isList h0 (by omega) (by rw [hj]; simpa using ew) fin
      · have hj : (k + (its.toArray.size : Int)).toNat = j := by
          rw [seqIndex_neg (by omega) h4] at h1
          rw [List.size_toArray, ← hl]
          exact Option.some.inj h1
        exact wpAny_getItem_list_neg pl.isList (by omega) (by rw [List.size_toArray] <;> omega) (by omega) (by rw [hj]; simpa using ew) fin
theorem psw_augs {op : Operator} (hop : op = .Add ∨ op = .Sub) (hu : X.A.units + 1 < cLine) (ho : PEw X A Wx o to) (hi : PEw X A Wx i ti) (he : PEw X A Wx e te)
    (ha : ∀ ov iv new, augStore i ov iv new = (do holding [new, ov, iv] (setItem ov iv new); release [new, ov, iv] []; pure .next)) :
    PSw X A Wx (.AugAssign (.Subscript o i tpos) op e pos) (fun D σ H => to σ H (fun x H1 => ti σ H1 (fun y H2 => idxL x y H2 fun u H3 => te σ H3 (fun z H4 => match (generalizing := false) op, u, z with
      | .Add, .int m, .int n => setsW x y (.int (m + n)) H4 fun H5 => D.nx σ H5
      | .Sub, .int m, .int n => setsW x y (.int (m - n)) H4 fun H5 => D.nx σ H5
      | _, _, _ => False) fun x H1 => D.ex x σ H1) fun x H1 => D.ex x σ H1) fun x H1 => D.ex x σ H1) := by
  have go : ∀ {f : Int → Int → Int}, PIp X op (ipI f) → (∀ (x y u z : W) (H : HpW) (q : HpW → Prop), (match (generalizing := false) op, u, z with
      | .Add, .int m, .int n => setsW x y (.int (m + n)) H q
      | .Sub, .int m, .int n => setsW x y (.int (m - n)) H q
      | _, _, _ => False) → ∃ m n, u = .int m ∧ z = .int n ∧ setsW x y (.int (f m n)) H q) → PSw X A Wx (.AugAssign (.Subscript o i tpos) op e pos) (fun D σ H => to σ H (fun x H1 => ti σ H1 (fun y H2 => idxL x y H2 fun u H3 => te σ H3 (fun z H4 => match (generalizing := false) op, u, z with
      | .Add, .int m, .int n => setsW x y (.int (m + n)) H4 fun H5 => D.nx σ H5
      | .Sub, .int m, .int n => setsW x y (.int (m - n)) H4 fun H5 => D.nx σ H5
      | _, _, _ => False) fun x H1 => D.ex x σ H1) fun x H1 => D.ex x σ H1) fun x H1 => D.ex x σ H1) := fun {f} ip hh =>
    psW (ps_augS ho hi get_lst he ip (set_any hu) ha) fun D σ H ⟨σW, HW, DW, rs, rh, h, er⟩ => ⟨σW, HW, _, _, rs, rh, h, fun x HW1 v H1 t1 rx rh1 h1 => ⟨σW, HW1, _, _, rs.mono t1, rh1, h1, fun y HW2 u H2 t2 ry rh2 h2 =>
      ⟨x, y, HW2, _, rx.mono t2, ry, rh2, h2, fun u HW3 v3 H3 t3 ru rh3 h3 => ⟨σW, HW3, _, _, rs.mono ((t1.trans t2).trans t3), rh3, h3, fun z HW4 v4 H4 t4 rz rh4 h4 => by
        obtain ⟨m, n, rfl, rfl, h5⟩ := hh x y u z HW4 (fun H5 => DW.nx σW H5) h4
        obtain rfl := ru.i_int
        obtain rfl := rz.i_int
        refine ⟨_, _, rfl, rfl, x, y, _, HW4, _, ((rx.mono t2).mono t3).mono t4, (ry.mono t3).mono t4, .int, rh4, h5, fun HW5 H5 t5 rh5 h6 => ?_⟩
        have t := (((t1.trans t2).trans t3).trans t4).trans t5
        exact er.nx _ _ _ _ t (rs.mono t) rh5 h6, (er.later ((t1.trans t2).trans t3)).xrm (rs.mono ((t1.trans t2).trans t3))⟩⟩, (er.later t1).xrm (rs.mono t1)⟩, er.xrm rs⟩
  rcases hop with rfl | rfl
  · exact go ip_add fun x y u z H q h => by
      cases u <;> first | (exact False.elim h; done) | skip
      cases z <;> first | (exact False.elim h; done) | exact ⟨_, _, rfl, rfl, h⟩
  · exact go ip_sub fun x y u z H q h => by
      cases u <;> first | (exact False.elim h; done) | skip
      cases z <;> first | (exact False.elim h; done) | exact ⟨_, _, rfl, rfl, h⟩
/-! ### comprehensions -/
theorem pew_lc {elt iter : Expr} {ifs : List Expr} {x : Str} {px : Pos} {scope : Scope} {i : Nat} {tI : TIW} (hc : X.calm = true) (hN : X.N.Nodup) (hi : PI X (.Name x px) iter (canI (om X A) Wx tI)) (ok : BlkOk X.N X.env.scope scope [(x, i)])
    (hg : ∀ (s : Shared) (H : Hp) (C : Addr) (cl : List (Str × Addr)) (fp : List Addr), PG (X.blk s H scope (compEnvC scope cl C X.env) fp) (.Name x px) (gName i))
    (ht : ∀ (s : Shared) (H : Hp) (C : Addr) (cl : List (Str × Addr)) (fp : List Addr), PTs (X.blk s H scope (compEnvC scope cl C X.env) fp) ifs (canT (om X A) WF tt))
    (he : ∀ (s : Shared) (H : Hp) (C : Addr) (cl : List (Str × Addr)) (fp : List Addr), PE (X.blk s H scope (compEnvC scope cl C X.env) fp) elt (canE (om X A) WF te)) (hs : ∀ x, foldedSetIterable iter X.env x = pure x) :
    PEw X A Wx (.ListComp elt [⟨.Name x px, iter, ifs, 0⟩] scope pos) (fun σ H Q E => tI σ H (fun ws gd H1 => ∀ D, H1 D = none → lcW (σ.set i none) i tt te D gd (fun H' => Q (.ref D) H') ws (updW H1 D (.lst []))) E) :=
  peW (pe_lc hc hN hi ok hg ht he hs) fun σ H Q h => lc_weak h
theorem psw_setLc {j : Nat} {y : Str} {py : Pos} {elt iter : Expr} {ifs : List Expr} {x : Str} {px : Pos} {scope : Scope} {i : Nat} {tI : TIW} {spos : Pos} (hc : X.calm = true) (hN : X.N.Nodup) (hy : X.N[j]? = some y) (hyl : X.env.scope.names.lookup y = some .local)
    (hsw : swapsWith (.ListComp elt [⟨.Name x px, iter, ifs, 0⟩] scope pos) (some (.Name y py)) spos.line X.env = pure true) (hi : PI X (.Name x px) iter (canI (om X A) Wx tI)) (ok : BlkOk X.N X.env.scope scope [(x, i)])
    (hg : ∀ (s : Shared) (H : Hp) (C : Addr) (cl : List (Str × Addr)) (fp : List Addr), PG (X.blk s H scope (compEnvC scope cl C X.env) fp) (.Name x px) (gName i))
    (ht : ∀ (s : Shared) (H : Hp) (C : Addr) (cl : List (Str × Addr)) (fp : List Addr), PTs (X.blk s H scope (compEnvC scope cl C X.env) fp) ifs (canT (om X A) WF tt))
    (he : ∀ (s : Shared) (H : Hp) (C : Addr) (cl : List (Str × Addr)) (fp : List Addr), PE (X.blk s H scope (compEnvC scope cl C X.env) fp) elt (canE (om X A) WF te)) (hs : ∀ x, foldedSetIterable iter X.env x = pure x) :
    PSw X A Wx (.Assign [.Name y py] (.ListComp elt [⟨.Name x px, iter, ifs, 0⟩] scope pos) spos) (fun Dd σ H => tI σ H (fun ws gd H1 => ∀ D, H1 D = none → lcW (σ.set i none) i tt te D gd (fun H' => Dd.nx (σ.set j (some (.ref D))) H') ws (updW H1 D (.lst []))) fun x H1 => Dd.ex x σ H1) :=
  psW (ps_setLc hc hN hy hyl hsw hi ok hg ht he hs) fun D σ H ⟨σW, HW, DW, rs, rh, h, er⟩ => by
    refine lc_weak (Wx := Wx) ⟨σW, HW, fun w HW' => DW.nx (σW.set j (some w)) HW', _, rs, rh, h, fun w HW1 v H1 t1 rw1 rh1 z => ?_, er.xrm rs⟩
    exact er.nx _ _ _ _ t1 (RelS.set rw1 j (rs.mono t1)) rh1 z
theorem ptsw_nil : PTs X [] (canT (om X A) Wx (fun σ H Q _ => Q true H)) := ⟨fun pins s σ H Q I ⟨σW, HW, q, ee, rs, rh, h, n, xr⟩ => pts_nil.run pins s σ H Q I (n _ _ _ TLe.refl rh h)⟩
/-! ### f'..' -/
def canJ (Ω : Gd) (Wx : WX) (t : Str → StW → HpW → (Str → HpW → Prop) → EW → Prop) (acc : Str) (σ : L2.St) (H : Hp) (Q : Str → Hp → Prop) : Prop := ∃ σW HW q e, RelS Ω H σW σ ∧ RelH Ω HW H ∧ t acc σW HW q e ∧ (∀ z HW' H', TLe Ω H H' → RelH Ω HW' H' → q z HW' → Q z H') ∧ Xrm Ω H e (fun c d H' => Wx c d σ H')
def PJw (X : Cx) (A : Ad) (Wx : WX) (es : List Expr) (t : Str → StW → HpW → (Str → HpW → Prop) → EW → Prop) : Prop := ∃ ts, PJ X es ts ∧ ∀ acc σ H Q, canJ (om X A) Wx t acc σ H Q → tJs ts acc σ H Q
theorem pjw_nil : PJw X A Wx [] (fun acc _ H Q _ => Q acc H) := ⟨[], .nil, fun acc σ H Q ⟨σW, HW, q, ee, rs, rh, h, n, xr⟩ => n _ _ _ TLe.refl rh h⟩
theorem pjw_cons {t : Str → StW → HpW → (Str → HpW → Prop) → EW → Prop} (h1 : PEw X A Wx e te) (h2 : PJw X A Wx es t) : PJw X A Wx (e :: es) (fun acc σ H Q E => te σ H (fun x H1 => match x with
    | .str y => acc.length + y.length ≤ sizeLine ∧ t (acc ++ y) σ H1 Q E
    | _ => False) E) := by
  obtain ⟨ts, hp, hw⟩ := h2
  refine ⟨_, .cons h1 hp, fun acc σ H Q ⟨σW, HW, q, ee, rs, rh, h, n, xr⟩ => ⟨σW, HW, _, ee, rs, rh, h, fun x HW1 v H1 t1 rx rh1 h1 => ?_, xr⟩⟩
  cases x <;> first | (exact False.elim h1; done) | skip
  rename_i y
  obtain rfl := rx.i_str
  refine ⟨y, rfl, by rw [Str.length_append]; exact h1.1, hw _ _ _ _ ⟨σW, HW1, q, ee, rs.mono t1, rh1, h1.2, fun z HW' H' t2 => n z HW' H' (t1.trans t2), xr.later t1⟩⟩
theorem pew_fst {v1 v2 : Expr} {t : Str → StW → HpW → (Str → HpW → Prop) → EW → Prop} (h : PJw X A Wx (v1 :: v2 :: es) t) : PEw X A Wx (.JoinedStr (v1 :: v2 :: es) pos) (fun σ H Q E => t Str.empty σ H (fun z H1 => Q (.str z) H1) E) := by
  obtain ⟨ts, hp, hw⟩ := h
  exact peW (pe_joined hp) fun σ H Q ⟨σW, HW, q, ee, rs, rh, h, n, xr⟩ => hw _ _ _ _ ⟨σW, HW, _, ee, rs, rh, h, fun z HW' H' t rh' h' => n _ _ _ _ t .str rh' h', xr⟩
theorem pew_join {t : TEW} (h : PEw X A Wx e t) : PEw X A Wx (.JoinedStr [e] pos) t := pe_joined1 h
/-! ### raise C(e), C without an __init__ of its own -/
theorem psw_rse {c : Str} {xi : ExI} (gf : GF X.w X.K X.mg A G) (hc : X.calm = true) (tk : Takes X Wx) (ec : G.exn c = some xi) (hi : xi.init = none) (hg : Gl X c) (he : PEw X A Wx e te) (hs : starEach [e] X.env = (false, eval e X.env) :: starEach [] X.env) (hdb : (c == ("__debug__" : Str)) = false) :
    PSw X A Wx (.Raise (some (.Call (.Name c p) [e] [] pos)) none pos') (fun D σ H => match G.exn c with
    | some xi => (match xi.init with
      | none => te σ H (fun _ H1 => D.ex ⟨.own c, []⟩ σ H1) fun x H1 => D.ex x σ H1
      | some _ => False)
    | none => False) := by
  have ok := gf.exc c xi ec
  have key : PS X (.Raise (some (.Call (.Name c p) [e] [] pos)) none pos') (fun _ σ H => canE (om X A) Wx te σ H fun _ H1 => Wx (.ref (A.ca c)) none σ H1) := by
    rcases ok.plain hi with ⟨_, q⟩ | ⟨_, q⟩
    · exact ps_raise hc tk (SkE.pmk_own1 F.excBase_ValueError q ok.gl ok.kp (raises_own ok.sub ok.ty) hg he hs hdb)
    · exact ps_raise hc tk (SkE.pmk_own1 F.excBase_LookupError q ok.gl ok.kp (raises_own ok.sub ok.ty) hg he hs hdb)
  refine psW key fun D σ H ⟨σW, HW, DW, rs, rh, h, er⟩ => ?_
  simp only [ec, hi] at h
  exact ⟨σW, HW, _, _, rs, rh, h, fun w HW1 v H1 t1 _ rh1 z => er.ex _ _ _ _ _ _ _ t1 ⟨rfl, .inl ⟨rfl, rfl⟩⟩ (rs.mono t1) rh1 z, er.xrm rs⟩
/-! ### try .. except x: .. -/
theorem exmW_none {x c : XC} (h : G.exm x c = none) : exmW G x [c] = none := by
  unfold exmW
  rw [h]
theorem exmW_one {x c : XC} {b : Bool} (h : G.exm x c = some b) : exmW G x [c] = some b := by
  unfold exmW
  rw [h]
  cases b <;> rfl
theorem psw_tryo {x : Str} {cx : XC} {body suite : List Stmt} {b₀ : Stmt} {np : Pos} {tb ts : TSW} (gf : GF X.w X.K X.mg A G) (hs : X.stack = X.env :: X.outer) (hf : X.env.frame = some X.env.locals) (hc : Names X x ((om X A).xv cx)) (tk : Takes X Wx)
    (hb : ∀ (W : WX) (pn : List (Addr × Obj)) (xe : Value → Shared → Prop), Takes (X.tr pn xe) W → PassesOwn (model X.prog X.w) X.A X.env xe → PSs (X.tr pn xe) body (canS (om X A) W tb))
    (hsu : ∀ (a : Addr) (pn : List (Addr × Obj)), PSs (X.suite a pn) (b₀ :: suite) (canS (om X A) WF ts)) :
    PSw X A Wx (.Try body [.ExceptHandler (some (.Name x np)) none (b₀ :: suite) pos'] [] [] pos) (fun D σ H => tb { D with ex := fun x σ' H' => match exmW G x.cls [cx] with
      | some true => ts { D with ex := fun _ _ _ => False } σ' H'
      | some false => D.ex x σ' H'
      | none => False } σ H) := by
  refine psW (ps_try_only (tb := fun W => canS (om X A) W tb) (ts := fun _ _ _ => canS (om X A) WF ts) hs hf hc tk hb fun a oe cls d pn _ _ => hsu a _) fun D σ H ⟨σW, HW, DW, rs, rh, h, er⟩ => ⟨σW, HW, _, rs, rh, h, er.nx, er.rt, er.bk, er.ct, fun y σW' HW' c d σ' H' t rx rs' rh' z => ?_⟩
  dsimp only at z
  cases em : G.exm y.cls cx with
  | none => rw [exmW_none em] at z; exact z.elim
  | some b =>
    rw [exmW_one em] at z
    refine ⟨b, by rw [rx.1]; exact gf.exm _ _ _ em, fun hb a _ => ?_, fun hb => ?_⟩
    · subst hb
      exact ⟨σW', HW', _, rs', rh', z, (er.later t).nx, (er.later t).rt, (er.later t).bk, (er.later t).ct, fun _ _ _ _ _ _ _ _ _ _ _ z => z.elim⟩
    · subst hb
      exact er.ex _ _ _ _ _ _ _ t rx rs' rh' z
end
end Uw

namespace Uw
open PySem PySem.Spec PyProof.Rows L2
/-! ### own exceptions whose __init__ says super().__init__(..) and stores its parameters -/
theorem fldsOf_rel {Ω : Gd} {H : Hp} {ws : List W} {vs : List V} (rw1 : RelWs Ω H ws vs) : ∀ {fl : List (Str × Nat)} {acc fs : List (Str × W)} {accV : List (Str × V)}, RelKs Ω H acc accV → fldsOf ws fl acc = some fs → ∃ fv, fldsOf vs fl accV = some fv ∧ RelKs Ω H fs fv
  | [], acc, fs, accV, r, e => by cases e; exact ⟨accV, rfl, r⟩
  | (f, i) :: l, acc, fs, accV, r, e => by
    unfold fldsOf at e
    cases ei : ws[i]? with
    | none => rw [ei] at e; cases e
    | some w =>
      rw [ei] at e
      obtain ⟨v, e1, e2⟩ := rw1.get ei
      obtain ⟨fv, h1, h2⟩ := fldsOf_rel rw1 (acc := (f, w) :: acc) (accV := (f, v) :: accV) ⟨v, accV, rfl, e2, r⟩ e
      exact ⟨fv, by unfold fldsOf; rw [e1]; exact h1, h2⟩
theorem fldsOf_ne {α : Type} {rest : List α} : ∀ {fl : List (Str × Nat)} {acc fs : List (Str × α)}, fldsOf rest fl acc = some fs → (acc ≠ [] ∨ fl ≠ []) → fs ≠ []
  | [], acc, fs, e, h => by
    cases e
    exact h.elim id fun z => absurd rfl z
  | (f, i) :: l, acc, fs, e, h => by
    unfold fldsOf at e
    cases ei : rest[i]? with
    | none => rw [ei] at e; cases e
    | some w => rw [ei] at e; exact fldsOf_ne e (.inl (by simp))
/-- what such an __init__ promises -/
def spXi (C : Addr) (n : Nat) (fl : List (Str × Nat)) : Sp := fun vs H Q _ => ∃ a rest fs, vs = .ref a :: rest ∧ rest.length = n ∧ H a = some (exo a C none) ∧ fldsOf rest fl [] = some fs ∧ fs ≠ [] ∧
  ∀ d H', H d = none → d ≠ a → H' a = some (exo a C (some d)) → H' d = some (exd d fs) → (∀ b, b ≠ a → b ≠ d → H' b = H b) → Q .non H'
/-- C(e, ..) -/
def tMkX (C : Addr) (n : Nat) (fl : List (Str × Nat)) (ta : TA) : L2.St → Hp → XK → Prop := fun σ H Q => ta σ H fun vs H1 => vs.length = n ∧ vs.length ≤ 1000 ∧ ∃ fs, fldsOf vs fl [] = some fs ∧ fs ≠ [] ∧
  ∀ d H', H1 d = none → H' d = some (.xd fs) → (∀ b u, H1 b = some u → H' b = some u) → Q (.ref C) (some d) H'
theorem cx_false {P : Program} {w : World} {st : List Env} {H : Hp} {s s' : Shared} {e : Value} (h : L2.CX P w st H s (fun _ _ _ => False) e s') : False := by
  obtain ⟨_, _, _, _, _, _, _, _, _, _, _, _, z⟩ := h
  exact z
section
variable {X : Cx} {e : Expr} {es : List Expr} {ta : TA} {p pos : Pos}
theorem pmk_xi {x : Str} {C fI : Addr} {fd : FuncData} {ps : List Str} {n : Nat} {fl : List (Str × Nat)} {B newId initId : String} {tl : List Value} (T : XcOk X.K C B newId initId tl) (iC : PySem.W.findIn X.K (.ref C) "__init__" = some (some (.ref fI))) (tI : PySem.W.typeIn X.K (.ref fI) = some (.type "function"))
    (F1 : FnOk X.prog X.w X.K X.mg X.base (L2.CX X.prog X.w) 1 fI fd ps (spXi C n fl)) (hr : Room 2 X.A) (hb : ∀ (s : Shared) (us : List Value), X.K.In s.heap → us.length = ps.length → BindsTo s fd ⟨us, []⟩ (ps.zip us)) (hg : Gl X x) (hm : X.mg x = some (.ref C)) (ha : PA X (e :: es) ta)
    (hdb : (x == ("__debug__" : Str)) = false) (he : starEach (e :: es) X.env = (false, eval e X.env) :: starEach es X.env) (hpl : (backTo pos (starEach es X.env)).any (·.1) = false) :
    PMk X (.Call (.Name x p) (e :: es) [] pos) (tMkX C n fl ta) := by
  intro pins s σ H Q I h
  refine wpAny_Call_Name_kw (ld_glob I hg hm ?_ hdb)
  refine PySem.W.callWith_K (h₀ := X.base) I.ok.mod.kin T.kC (thn (ha.run pos pins s σ H _ I h) fun us s1 ⟨vs, H1, I1, r1, hlen, hz, fs, ef, hne, q1⟩ => ⟨I1.kIn, ?_⟩) he hpl
  show wpAny _ _ (call (.ref C) us) _ _ _
  obtain ⟨nm, N, qn, bs, bm, hdct, sn, sub, ab, col, dd, k0, k1, k2, k3, k5, hC, hT⟩ := PySem.W.excInit_of I1.kIn T.ini
  obtain ⟨hp, g, dr, tk, os⟩ := s1
  have hsz : hp.objs.size ≤ hp.objs.size + 1 := Nat.le_succ _
  have hn : H1 (hp.objs.size + 1) = none := I1.hok.fresh hsz
  have kk : ∀ b o, hp.get? b = some o → ((hp.push (PySem.W.kdv_tup us)).push (PySem.HandSPX.excO C hp.objs.size)).get? b = some o := fun b o e => Heap.get?_push_of_some _ (Heap.get?_push_of_some _ e)
  have hget : ((hp.push (PySem.W.kdv_tup us)).push (PySem.HandSPX.excO C hp.objs.size)).get? (hp.objs.size + 1) = some (PySem.HandSPX.excO C hp.objs.size) := by heap_get
  have I2 : Inv X pins σ (upd H1 (hp.objs.size + 1) (exo (hp.objs.size + 1) C none)) ⟨(hp.push (PySem.W.kdv_tup us)).push (PySem.HandSPX.excO C hp.objs.size), g, dr, tk, os⟩ :=
    I1.laid (t' := tk) (a := hp.objs.size + 1) (o := exo (hp.objs.size + 1) C none) (h' := (hp.push (PySem.W.kdv_tup us)).push (PySem.HandSPX.excO C hp.objs.size)) kk hsz (exo_ok hget)
  have r2 : Vals (V.ref (hp.objs.size + 1) :: vs) (Value.ref (hp.objs.size + 1) :: us) := .cons rfl r1
  have hq : spXi C n fl (V.ref (hp.objs.size + 1) :: vs) (upd H1 (hp.objs.size + 1) (exo (hp.objs.size + 1) C none)) (fun v H2 => v = .non ∧ ∃ (d : Addr) (fs : List (Str × V)), H2 (hp.objs.size + 1) = some (exo (hp.objs.size + 1) C (some d)) ∧ H2 d = some (exd d fs) ∧ H1 d = none ∧ Q (.ref C) (some d) (upd (del H2 (hp.objs.size + 1)) d (.xd fs))) (fun _ _ _ => False) := by
    refine ⟨_, vs, fs, rfl, hlen, upd_same, ef, hne, fun d H' hd hda ea ed hf => ⟨rfl, d, fs, ea, ed, ?_, ?_⟩⟩
    · rw [upd_ne hda] at hd; exact hd
    · rw [upd_ne hda] at hd
      refine q1 d _ hd upd_same fun b u hb => ?_
      have h1 : b ≠ d := ne_of_none hb hd
      have h2 : b ≠ hp.objs.size + 1 := ne_of_none hb hn
      rw [upd_ne h1, del_ne h2, hf b h2 h1, upd_ne h2]
      exact hb
  have hl : (Value.ref (hp.objs.size + 1) :: us).length = ps.length := by
    have e := r2.length
    rw [F1.len _ _ _ _ hq] at e
    exact e.symm
  have hus : us.length ≤ sizeLine := by
    rw [← Paired.length r1, sizeLine_eq]
    omega
  refine wpAny_call (PySem.HandSPX.call_own T.fb hT hC (PySem.W.looks_findIn I1.kIn iC) (fun self => PySem.W.bind_fn I1.kIn self tI) hus
    (codeAny_mono (F1.run _ X.stack _ _ ⟨Value.ref (hp.objs.size + 1) :: us, []⟩ (Value.ref (hp.objs.size + 1) :: us) _ _ (fun _ _ _ => False) (hr.make C us []) (I2.env0.make C us []) (hb _ (Value.ref (hp.objs.size + 1) :: us) I2.kIn hl) r2 hq) fun r s' hq' => ?_))
  cases r with
  | error er => exact (cx_false hq').elim
  | ok fl =>
    cases fl with
    | ret u =>
      obtain ⟨v, H2, os2, bare2, un2, hok2, rv, ev, d, fs, ea, ed, hd1, q2⟩ := hq'
      subst ev
      obtain ⟨h2, g2, d2, t2, os'⟩ := s'
      exact ⟨rv, mk_end (raises_own T.exC T.tyC) I1 hsz kk un2 hok2 os2 bare2 ea ed hd1 q2⟩
    | next => exact False.elim hq'
    | brk => exact False.elim hq'
    | cont => exact False.elim hq'
end
/-! ### what all that stands stays -/
theorem TLe.of {Ω : Gd} {H H' : Hp} (h : ∀ b u, H b = some u → H' b = some u) : TLe Ω H H' := ⟨fun b xs q => SqT.keep q fun u e => h b u e, fun b o xs e => h b _ e⟩
theorem RelH.of {Ω : Gd} {HW : HpW} {H H' : Hp} (r : RelH Ω HW H) (h : ∀ b u, H b = some u → H' b = some u) : RelH Ω HW H' := fun a o e => (r a o e).keep (TLe.of h) fun u q => h a u q
/-- the own exceptions whose __init__ is as told -/
def XiOk (P : Program) (w : World) (K : PySem.W.Frag) (mg : Str → Option Value) (base : Heap) (A : Ad) (G : GT) : Prop := ∀ c xi k, G.exn c = some xi → xi.init = some k → xi.fl ≠ [] →
  ∃ B newId initId tl fd ps n, XcOk K (A.ca c) B newId initId tl ∧ mg c = some (.ref (A.ca c)) ∧ PySem.W.findIn K (.ref (A.ca c)) "__init__" = some (some (.ref (A.fa k))) ∧ PySem.W.typeIn K (.ref (A.fa k)) = some (.type "function") ∧
    FnOk P w K mg base (L2.CX P w) 1 (A.fa k) fd ps (spXi (A.ca c) n xi.fl) ∧ n = xi.ar ∧ ∀ (s : Shared) (us : List Value), K.In s.heap → us.length = ps.length → BindsTo s fd ⟨us, []⟩ (ps.zip us)
section
variable {X : Cx} {A : Ad} {Wx : WX} {G : GT} {e : Expr} {es : List Expr} {ts : TAW} {p pos pos' : Pos}
theorem psw_rsx {c : Str} {xi : ExI} {k : Str} (ok : XiOk X.prog X.w X.K X.mg X.base A G) (hc : X.calm = true) (tk : Takes X Wx) (hr : Room 2 X.A) (ec : G.exn c = some xi) (hi : xi.init = some k) (hfl : xi.fl ≠ []) (hg : Gl X c) (ha : PAw X A Wx (e :: es) ts) (hdb : (c == ("__debug__" : Str)) = false)
    (he : starEach (e :: es) X.env = (false, eval e X.env) :: starEach es X.env) (hpl : (backTo pos (starEach es X.env)).any (·.1) = false) :
    PSw X A Wx (.Raise (some (.Call (.Name c p) (e :: es) [] pos)) none pos') (fun D σ H => ts σ H (fun ws H1 => match G.exn c with
    | some xi => ws.length = xi.ar ∧ ws.length ≤ 1000 ∧ (match fldsOf ws xi.fl [] with
      | some fs => D.ex ⟨.own c, fs⟩ σ H1
      | none => False)
    | none => False) fun x H1 => D.ex x σ H1) := by
  obtain ⟨B, newId, initId, tl, fd, ps, n, T, gm, iC, tI, F1, hn, hb⟩ := ok c xi k ec hi hfl
  refine psW (ps_raise hc tk (pmk_xi T iC tI F1 hr hb hg gm ha hdb he hpl)) fun D σ H ⟨σW, HW, DW, rs, rh, h, er⟩ => ?_
  refine ⟨σW, HW, _, _, rs, rh, h, fun ws HW1 vs H1 t1 rws rh1 z => ?_, er.xrm rs⟩
  rw [ec] at z
  obtain ⟨z1, z2, z⟩ := z
  cases ef : fldsOf ws xi.fl [] with
  | none => rw [ef] at z; exact z.elim
  | some fs =>
    rw [ef] at z
    obtain ⟨fv, e1, e2⟩ := fldsOf_rel rws (acc := []) (accV := []) rfl ef
    refine ⟨by rw [← rws.length, hn]; exact z1, by rw [← rws.length]; exact z2, fv, e1, fldsOf_ne e1 (.inr hfl), fun d H' hd hx hk => ?_⟩
    have t2 : TLe (om X A) H1 H' := TLe.of hk
    exact er.ex _ _ _ _ _ _ _ (t1.trans t2) ⟨rfl, .inr ⟨d, fv, fldsOf_ne ef (.inr hfl), rfl, rh1.free hd, hx, e2.mono t2⟩⟩ (rs.mono (t1.trans t2)) (rh1.of hk) z
/-! ### try .. except x as n: .. -/
theorem psw_trya {x n : Str} {cx : XC} {i : Nat} {body suite : List Stmt} {b₀ : Stmt} {np : Pos} {tb : TSW} {ts : Addr × XC × Option Addr → TSW} (gf : GF X.w X.K X.mg A G) (hs : X.stack = X.env :: X.outer) (hf : X.env.frame = some X.env.locals) (hN : X.N.Nodup) (hi : X.N[i]? = some n) (hln : X.env.kindOf n = some .local)
    (hc : Names X x ((om X A).xv cx)) (tk : Takes X Wx)
    (hb : ∀ (W : WX) (pn : List (Addr × Obj)) (xe : Value → Shared → Prop), Takes (X.tr pn xe) W → PassesOwn (model X.prog X.w) X.A X.env xe → PSs (X.tr pn xe) body (canS (om X A) W tb))
    (hsu : ∀ (a : Addr) (oe : Obj) (xc : XC) (d : Option Addr) (pn : List (Addr × Obj)), Zc ((om X A).xv xc) d oe → (∃ vs, oe.data = .fields vs) → PSs (X.suite a ((a, oe) :: pn)) (b₀ :: suite) (canS (om X A) WF (ts (a, xc, d)))) :
    PSw X A Wx (.Try body [.ExceptHandler (some (.Name x np)) (some n) (b₀ :: suite) pos'] [] [] pos) (fun D σ H => tb { D with ex := fun x σ' H' => match exmW G x.cls [cx] with
      | some true => (match x.fs with
        | [] => ∀ a, H' a = none → ts (a, x.cls, none) (asEnds i D) (σ'.set i (some (.ref a))) H'
        | _ => ∀ a dd, H' a = none → H' dd = none → a ≠ dd → ts (a, x.cls, some dd) (asEnds i D) (σ'.set i (some (.ref a))) (updW H' dd (.xd x.fs)))
      | some false => D.ex x σ' H'
      | none => False } σ H) := by
  refine psW (ps_try_as (tb := fun W => canS (om X A) W tb) (ts := fun a cls d => fun D σ H => ∃ xc, cls = (om X A).xv xc ∧ canS (om X A) WF (ts (a, xc, d)) D σ H) hs hf hN hi hln hc tk hb fun a oe cls d pn hz hfl => ⟨fun pins s σ H D I ⟨xc, e, h⟩ => ?_⟩) fun D σ H ⟨σW, HW, DW, rs, rh, h, er⟩ => ⟨σW, HW, _, rs, rh, h, er.nx, er.rt, er.bk, er.ct, fun y σW' HW' c d σ' H' t rx rs' rh' z => ?_⟩
  · subst e
    exact (hsu a oe xc d pn hz hfl).run pins s σ H D I h
  dsimp only at z
  have ends : ∀ {H2 : Hp}, TLe (om X A) H' H2 → EndsR (om X A) WF H2 (asEnds i DW) { nx := fun σ' H' => D.nx (σ'.set i none) H', rt := D.rt, bk := fun σ' H' => D.bk (σ'.set i none) H', ct := fun σ' H' => D.ct (σ'.set i none) H' } := fun {H2} t2 =>
    have t' := t.trans t2
    ⟨fun a b c d e f g h => er.nx _ _ _ _ (t'.trans e) (f.unset i none) g h, er.rt.later t', fun a b c d e f g h => er.bk _ _ _ _ (t'.trans e) (f.unset i none) g h, fun a b c d e f g h => er.ct _ _ _ _ (t'.trans e) (f.unset i none) g h, fun _ _ _ _ _ _ _ _ _ _ _ z => z.elim⟩
  cases em : G.exm y.cls cx with
  | none => rw [exmW_none em] at z; exact z.elim
  | some b =>
    rw [exmW_one em] at z
    refine ⟨b, by rw [rx.1]; exact gf.exm _ _ _ em, fun hb a ha => ?_, fun hb => ?_⟩
    · subst hb
      dsimp only at z
      rcases rx.2 with ⟨hfs, rfl⟩ | ⟨dd, xs, hne, rfl, hfree, hxd, rk⟩
      · rw [hfs] at z
        exact ⟨y.cls, rx.1, _, HW', _, RelS.set .ref i rs', rh', z a (rh'.free ha), ends TLe.refl⟩
      · have z' : ∀ a dd, HW' a = none → HW' dd = none → a ≠ dd → ts (a, y.cls, some dd) (asEnds i DW) (σW'.set i (some (.ref a))) (updW HW' dd (.xd y.fs)) := by
          cases hy : y.fs with
          | nil => exact absurd hy hne
          | cons f r => rw [hy] at z; exact z
        refine ⟨y.cls, rx.1, _, updW HW' dd (.xd y.fs), _, RelS.set .ref i rs', ?_, z' a dd (rh'.free ha) hfree (fun e => by rw [e, hxd] at ha; cases ha), ends TLe.refl⟩
        intro b o e
        by_cases hbd : b = dd
        · subst hbd
          rw [updW_same] at e; cases e
          exact ⟨xs, hxd, rk⟩
        · rw [updW_ne hbd] at e
          exact rh' b o e
    · subst hb
      exact er.ex _ _ _ _ _ _ _ t rx rs' rh' z
/-! ### the exception at hand, in the suite -/
/-- what X knows of it -/
def HasX (X : Cx) (A : Ad) (x : Addr × XC × Option Addr) : Prop := ∃ oe, (x.1, oe) ∈ X.pn ∧ Zc ((om X A).xv x.2.1) x.2.2 oe ∧ ∃ vs, oe.data = .fields vs
theorem pew_xf {i : Nat} {n f : Str} {x : Option (Addr × XC × Option Addr)} {np : Pos} (hx : ∀ z, x = some z → HasX X A z) (gf : GF X.w X.K X.mg A G)
    (hN : X.N[i]? = some n) (hv : Vis X.env.scope n) (hd : (n == ("__debug__" : Str)) = false) (hcd : (n == ("__classdict__" : Str)) = false) :
    PEw X A Wx (.Attribute (.Name n np) f pos) (fun σ H Q _ => match (generalizing := false) sg σ i, x with
    | some (.ref a), some (a', .own c, some dd) => a = a' ∧ (match G.exn c, H dd with
      | some xi, some (.xd fs) => xi.init.isSome = true ∧ f ∈ xi.fl.map (·.1) ∧ (match fs.lookup f with
        | some w => Q w H
        | none => False)
      | _, _ => False)
    | _, _ => False) := by
  refine ⟨fun pins s σ H Q I ⟨σW, HW, q, ee, rs, rh, h, nn, xr⟩ => ?_⟩
  dsimp only at h
  cases es : sg σW i with
  | none => rw [es] at h; exact h.elim
  | some w0 =>
  rw [es] at h
  cases w0 <;> first | (exact False.elim h; done) | skip
  rename_i a
  cases x with
  | none => exact h.elim
  | some z =>
  obtain ⟨a', xc, d⟩ := z
  cases xc with
  | blt _ => exact h.elim
  | own c =>
  cases d with
  | none => exact h.elim
  | some dd =>
  dsimp only at h
  obtain ⟨rfl, h⟩ := h
  split at h
  · rename_i xi fs ec eh
    obtain ⟨h1, h2, h⟩ := h
    split at h
    · rename_i w ew
      have T := (gf.exc c xi ec).xf
      have hno := (gf.exc c xi ec).fld
      obtain ⟨oe, hpn, hz, vs, hdv⟩ := hx _ rfl
      obtain ⟨v0, e0, r0⟩ := rs.get (sg_eq es)
      obtain rfl := r0.i_ref
      refine attr_of rfl (thn ((pe_var (pos := np) hN hv hd hcd).run pins s σ H (fun v H1 => v = .ref a ∧ H1 = H) I ⟨_, e0, rfl, rfl⟩) fun u s1 hh => ?_)
      obtain ⟨xv, H1, I1, rx, ex, eH⟩ := hh
      subst ex
      subst eH
      obtain rfl : u = Value.ref a := rx
      obtain ⟨ha, _⟩ := I1.pin (a, oe) (List.mem_append_left _ hpn)
      obtain ⟨xs, ea, rk⟩ := rh _ _ eh
      have hxo : ObjOk X.prog X.w H1 s1.heap dd (.xd xs) := I1.hok dd _ ea
      obtain ⟨mA, hns, hr⟩ := hxo
      obtain ⟨od, ho, hl⟩ := lookIn_ns hns
      obtain ⟨v, l, rv⟩ := rk.look ew
      obtain ⟨u, hu, ru⟩ := RelO.some_of (v := v) (o := mA f) (by rw [← l]; exact hr f)
      have J : PySem.W.InstAt s1.heap a oe (A.ca c) (some od) := ⟨ha, hz.1, by unfold PySem.W.notCls; rw [hdv] <;> rfl, by rw [hz.2]; exact ho⟩
      exact HandSPX.exc_get I1.kIn J T.ga T.gg T.exC (PySem.W.findObj_own T.hdC (hno f h2) rfl (by rw [hl, hu])) (handed_of ru) ⟨v, H1, I1.tok _, ru, nn.here rv rh h⟩
    · exact h.elim
  · exact h.elim
end
end Uw

namespace Uw
open PySem PySem.Spec PyProof.Rows L2 PySem.W PySem.Calls
section
variable {prog : Program} {w : World} {A : Around} {E : Value → Shared → Prop} {s : Shared} {K : Frag} {x D : Addr} {ox : Obj} {od : Option Obj}
theorem xis_class {Q : Option Value → Shared → Prop} (T : XfOk K D) (X : K.In s.heap) (I : InstAt s.heap x ox D od) (h : Q (some (.ref D)) { s with toks := s.toks + 1 }) : wpAny (model prog w) A (getAttr? (.ref x) "__class__") Q E s := by
  have hc : (clsIn K D).isSome = true := by obtain ⟨cd, hc, _⟩ := any_some T.hdC; rw [hc]; rfl
  have hf : findObj K D od "__class__" = some (.bind (.builtin "getset_descriptor.__get__") (.builtin "object.__class__")) := by
    cases od with
    | none => exact findObj_dataN hc T.ha T.hn T.ht
    | some o => exact findObj_data hc T.ha T.hn T.ht
  have hga := T.ga
  have hgt := T.gg
  have hsub := T.exC
  have hm := T.hm
  obtain ⟨hp, g, d, t, os⟩ := s
  have L0 := I.type (M := model prog w)
  have L1 := looks_findIn (M := model prog w) X hga
  have L2 := looks_findIn (M := model prog w) X hgt
  have L3 := looks_find (M := model prog w) X I hf
  have sub : Looks (model prog w) hp (isInstance (.ref x) (.type "BaseException")) true := L0.andThen (looks_subIn X hsub)
  have hx0 : (false && onTheHeap (Value.builtin "BaseException.__getattribute__")) = false := rfl
  have hx2 : (Value.builtin "BaseException.__getattribute__" == Value.builtin "object.__getattribute__") = false := by decide +kernel
  have hx1 : (onTheHeap (Value.ref D) && Value.builtin "BaseException.__getattribute__" == Value.builtin "object.__getattribute__") = false := by rw [hx2]; rfl
  unfold getAttr? getAttrBy? getAttrBy
  refine wpAny_bind (wpAny_mkText (wpAny_bind (wpAny_attempt (wpAny_holding (wpAny_bind (L0.at (wpAny_bind (L1.at ?_))))))))
  show wpAny _ _ (if (onTheHeap (Value.ref D) && Value.builtin "BaseException.__getattribute__" == Value.builtin "object.__getattribute__") = true then _ else _) _ _ _
  rw [hx1, if_neg Bool.false_ne_true]
  unfold getAttrByItsOwn hookBefore
  refine wpAny_bind ?_
  rw [if_pos (show onTheHeap (Value.ref D) = true from rfl)]
  refine L2.at ?_
  refine wpAny_bind (wpAny_attempt (wpAny_holding ?_))
  unfold callGetattribute
  rw [hx0, if_neg Bool.false_ne_true]
  unfold boundAndCalled
  rw [PySem.F.excAttr_ValueError.ga.bind (.ref x)]
  refine wpAny_bind (wpAny_pure ?_)
  show wpAny _ _ (call (.builtin "BaseException.__getattribute__") [.ref x, .str "__class__" t]) _ _ _
  refine wpAny_call (codeAny_call_builtin PySem.F.excAttr_ValueError.ga.plain PySem.F.entry_bexc_ga ?_)
  refine @check_slot (model prog w) _ _ ⟨hp, g, d, t + 1, os⟩ "BaseException.__getattribute__" "BaseException" "__getattribute__" (.ref x) [.str "__class__" t] [] _ (by decide +kernel) (by decide +kernel) sub (PySem.F.args_bexc_ga (.ref x) (.str "__class__" t)) ?_
  unfold Builtin.«object.__getattribute__»
  refine wpAny_bind (wpAny_of_eq (a := ((Value.ref x : Value), [Value.str "__class__" t])) (by first | rfl | (simp only [slotArgs]; rfl)) ?_)
  refine wpAny_bind (wpAny_pure (wpAny_bind (L0.at (wpAny_bind (L3.at ?_)))))
  show wpAny _ _ (holding [Value.builtin "object.__class__"] (call (.builtin "getset_descriptor.__get__") [.builtin "object.__class__", .ref x, .ref D]) >>= ret) _ _ _
  refine wpAny_bind (wpAny_holding (wpAny_call (class_get (s := ⟨hp, g, d, t + 1, os⟩) (ox := ox) (od := od) X I hm ?_)))
  refine wpAny_pure ?_
  show wpAny _ _ (handedOut (.ref D)) _ _ _
  rw [handedOut_of (v := .ref D) rfl]
  first
    | exact wpAny_pure (wpAny_pure h)
    | exact wpAny_pure h
    | exact wpAny_pure (wpAny_bind (wpAny_pure (wpAny_pure h)))
theorem xis_kit (T : XfOk K D) : KitX K (.ref x) (.ref D) (fun h => ∃ od, InstAt h x ox D od) where
  ty := fun _ _ _ ⟨_, I⟩ => I.type
  it := fun _ _ X _ => by
    obtain ⟨cdD, hcD, _⟩ := any_some T.hdC
    unfold clsIn at hcD
    split at hcD
    · rename_i c' d' cd' sl' ho
      intro A' Q' E' s' k q
      unfold isType loadHead
      exact wpAny_bind (wpAny_loadPart (k _ _ (X _ _ ho)) (wpAny_pure q))
    · cases hcD
  ne := fun h tp dd its n sl X htp => by
    obtain ⟨cdD, hcD, _⟩ := any_some T.hdC
    refine Bool.eq_false_iff.mpr fun q => ?_
    have e : D = tp := Value.ref.inj (beq_iff_eq.mp q)
    subst e
    unfold clsIn at hcD
    split at hcD
    · rename_i c' d' cd' sl' ho
      have z := (X _ _ ho).symm.trans htp
      cases z
    · cases hcD
  ca := fun X ⟨_, I⟩ k => xis_class T X I k
end
section
variable {X : Cx} {A : Ad} {Wx : WX} {G : GT} {pos : Pos}
/-- isinstance(e, c), e the exception that the suite holds -/
theorem call_xis {a : Addr} {c : Str} {d : Option Addr} {cx : XC} {cv : V} {b : Bool} (hx : HasX X A (a, .own c, d)) (T : XfOk X.K (A.ca c)) (kt : PySem.W.kitOne X.K (.ref (A.ca c)) ((om X A).xv cx) = some b) (kv : ClsV cv ((om X A).xv cx)) :
    CallR X (.builtin "isinstance") (fun xs H Q => xs = [.ref a, cv] ∧ (∀ dd, d = some dd → ∃ fs, H dd = some (.xd fs)) ∧ Q (.bl b) H) := by
  intro pins s σ H xs us Q I r h
  obtain ⟨rfl, hdd, q⟩ := h
  cases r with
  | cons rx rr =>
    cases rr with
    | cons rt rr =>
      cases rr
      cases rx
      rename_i u
      have ec : u = (om X A).xv cx := by
        revert rt kv
        cases cx with
        | own k => intro kv rt; cases kv; cases rt; rfl
        | blt m => intro kv rt; cases kv; cases rt; rfl
      subst ec
      obtain ⟨oe, hpn, hz, vs, hv⟩ := hx
      obtain ⟨hget, _⟩ := I.pin (a, oe) (List.mem_append_left _ hpn)
      have J : ∃ od, PySem.W.InstAt s.heap a oe (A.ca c) od := by
        obtain ⟨oc, od, oda, osl⟩ := oe
        obtain ⟨h1, h2⟩ := hz
        dsimp only at h1 h2 hv hdd hget
        subst h1 h2 hv
        cases od with
        | none => exact ⟨none, hget, rfl, rfl, trivial⟩
        | some dd =>
          obtain ⟨fs, e⟩ := hdd dd rfl
          have hxo : ObjOk X.prog X.w H s.heap dd (.xd fs) := I.hok dd _ e
          obtain ⟨mA, hns, hr⟩ := hxo
          obtain ⟨od, ho, _⟩ := lookIn_ns hns
          exact ⟨some od, hget, rfl, rfl, ho⟩
      exact PySem.W.kia_one (xis_kit T) I.kIn J kt (fun z => nomatch z) fun tk => ⟨.bl b, H, I.kept (t' := tk) fun _ _ z => z, rfl, q⟩
theorem pew_xis {i : Nat} {n xn : Str} {x : Option (Addr × XC × Option Addr)} {np p1 p2 : Pos} {cx : XC} (hx : ∀ z, x = some z → HasX X A z) (gf : GF X.w X.K X.mg A G)
    (hN : X.N[i]? = some n) (hv : Vis X.env.scope n) (hd : (n == ("__debug__" : Str)) = false) (hcd : (n == ("__classdict__" : Str)) = false) (hc : XcV X A cx xn) (hg : Gl X "isinstance") (hm : X.mg "isinstance" = none) :
    PEw X A Wx (.Call (.Name "isinstance" p1) [.Name n np, .Name xn p2] [] pos) (fun σ H Q _ => match (generalizing := false) sg σ i, x with
    | some (.ref a), some (a', .own k, d) => a = a' ∧ (∀ dd, d = some dd → ∃ fs, H dd = some (.xd fs)) ∧ (match G.exn k with
      | some _ => (match G.isa k cx with
        | some b => Q (.bl b) H
        | none => False)
      | none => False)
    | _, _ => False) := by
  have hcv : ∃ v, PE X (.Name xn p2) (tC v) ∧ ClsV v ((om X A).xv cx) := by
    obtain ⟨h1, h2, h3⟩ := hc
    cases cx with
    | own cn => exact ⟨.ref (A.ca cn), pe_glob h1 h3 rfl h2, .own _⟩
    | blt m => exact ⟨.ty m, pe_bltn h1 h3.1 h3.2.1 rfl h3.2.2 h2, .ty m⟩
  obtain ⟨cv, hcv, kv⟩ := hcv
  have hs2 : starEach [.Name xn p2] X.env = (false, eval (.Name xn p2) X.env) :: starEach [] X.env := rfl
  have hs1 : starEach [.Name n np, .Name xn p2] X.env = (false, eval (.Name n np) X.env) :: starEach [.Name xn p2] X.env := rfl
  refine ⟨fun pins s σ H Q I ⟨σW, HW, q, ee, rs, rh, h, nn, xr⟩ => ?_⟩
  dsimp only at h
  cases es : sg σW i with
  | none => rw [es] at h; exact h.elim
  | some w0 =>
  rw [es] at h
  cases w0 <;> first | (exact False.elim h; done) | skip
  rename_i a
  cases x with
  | none => exact h.elim
  | some z =>
  obtain ⟨a', xc, d⟩ := z
  cases xc with
  | blt _ => exact h.elim
  | own k =>
  dsimp only at h
  obtain ⟨rfl, hdd, h⟩ := h
  split at h
  · rename_i xi ek
    split at h
    · rename_i b eb
      have T := (gf.exc k xi ek).xf
      have kt := fun cx b => gf.xsa k xi cx b ek
      obtain ⟨v0, e0, r0⟩ := rs.get (sg_eq es)
      obtain rfl := r0.i_ref
      refine (pe_callB (call_xis (hx _ rfl) T (kt cx b eb) kv) hg hm (by decide +kernel) (pa_cons (pe_var hN hv hd hcd) (pa_cons hcv pa_nil hs2) hs1) (by decide) (by decide) hs1 rfl).run pins s σ H Q I ⟨_, e0, rfl, fun dd e => ?_, nn.here .bl rh h⟩
      obtain ⟨fs, ef⟩ := hdd dd e
      obtain ⟨xs, ex, _⟩ := rh _ _ ef
      exact ⟨xs, ex⟩
    · exact h.elim
  · exact h.elim
end
end Uw

namespace Uw
open PySem PySem.Spec PyProof.Rows L2 PySem.W PySem.Calls
section
variable {X : Cx} {A : Ad} {Wx : WX} {G : GT} {pos : Pos}
theorem xis_J {pins : List (Addr × Obj)} {σ : L2.St} {s : Shared} {H : Hp} {a : Addr} {c : Str} {d : Option Addr} (hx : HasX X A (a, .own c, d)) (I : L2.Inv X pins σ H s) (hdd : ∀ dd, d = some dd → ∃ fs, H dd = some (.xd fs)) : ∃ oe od, PySem.W.InstAt s.heap a oe (A.ca c) od := by
  obtain ⟨oe, hpn, hz, vs, hv⟩ := hx
  obtain ⟨hget, _⟩ := I.pin (a, oe) (List.mem_append_left _ hpn)
  obtain ⟨oc, od, oda, osl⟩ := oe
  obtain ⟨h1, h2⟩ := hz
  dsimp only at h1 h2 hv hdd hget
  subst h1 h2 hv
  cases od with
  | none => exact ⟨_, none, hget, rfl, rfl, trivial⟩
  | some dd =>
    obtain ⟨fs, e⟩ := hdd dd rfl
    have hxo : ObjOk X.prog X.w H s.heap dd (.xd fs) := I.hok dd _ e
    obtain ⟨mA, hns, hr⟩ := hxo
    obtain ⟨od, ho, _⟩ := lookIn_ns hns
    exact ⟨_, some od, hget, rfl, rfl, ho⟩
/-- isinstance(e, (c1, c2)) -/
theorem call_xis2 {a : Addr} {c : Str} {d : Option Addr} {cx cy : XC} {cv cw : V} {b b' : Bool} (hx : HasX X A (a, .own c, d)) (T : XfOk X.K (A.ca c)) (kt : PySem.W.kitOne X.K (.ref (A.ca c)) ((om X A).xv cx) = some b) (kv : ClsV cv ((om X A).xv cx))
    (kt' : PySem.W.kitOne X.K (.ref (A.ca c)) ((om X A).xv cy) = some b') (kv' : ClsV cw ((om X A).xv cy)) :
    CallR X (.builtin "isinstance") (fun xs H Q => ∃ tp, xs = [.ref a, .ref tp] ∧ H tp = some (.tup [cv, cw]) ∧ (∀ dd, d = some dd → ∃ fs, H dd = some (.xd fs)) ∧ Q (.bl (b || b')) H) := by
  intro pins s σ H xs us Q I r h
  obtain ⟨tp, rfl, hT, hdd, q⟩ := h
  obtain ⟨u1, u2, rfl, r1, r2⟩ := vals2 r
  cases (show u2 = Value.ref tp from r2)
  cases (show u1 = Value.ref a from r1)
  obtain ⟨oe, od, J⟩ := xis_J hx I hdd
  obtain ⟨_, its, rv, o, h1, h2, n, h3⟩ := (show ObjOk X.prog X.w H s.heap tp (.tup [cv, cw]) from I.hok tp _ hT)
  have e3 := ClsV.all (.cons kv (.cons kv' .nil)) rv
  subst e3
  obtain ⟨oc, od', dt, sl⟩ := o
  simp only at h2 h3
  subst h2 h3
  have ka : PySem.W.kitAny X.K (.ref (A.ca c)) [(om X A).xv cx, (om X A).xv cy] = some (b || b') := by
    refine kitAny_cons kt (fun e => ?_) fun e => by rw [e]; rfl
    rw [e, Bool.false_or]
    refine kitAny_cons kt' (fun e => by rw [e]; exact kitAny_nil) fun e => e
  exact PySem.W.kia_tup (xis_kit T) I.kIn ⟨od, J⟩ h1 ka (fun z => nomatch z) fun tk => ⟨.bl _, H, I.tok tk, rfl, q⟩
theorem xcv_pe {cx : XC} {xn : Str} {p2 : Pos} (hc : XcV X A cx xn) : ∃ v, PE X (.Name xn p2) (tC v) ∧ ClsV v ((om X A).xv cx) := by
  obtain ⟨h1, h2, h3⟩ := hc
  cases cx with
  | own cn => exact ⟨.ref (A.ca cn), pe_glob h1 h3 rfl h2, .own _⟩
  | blt m => exact ⟨.ty m, pe_bltn h1 h3.1 h3.2.1 rfl h3.2.2 h2, .ty m⟩
theorem pew_xis2 {i kk : Nat} {n xn yn : Str} {x : Option (Addr × XC × Option Addr)} {np p1 p2 p3 p4 : Pos} {cx cy : XC} (hx : ∀ z, x = some z → HasX X A z) (gf : GF X.w X.K X.mg A G)
    (hN : X.N[i]? = some n) (hv : Vis X.env.scope n) (hd : (n == ("__debug__" : Str)) = false) (hcd : (n == ("__classdict__" : Str)) = false) (hc : XcV X A cx xn) (hc2 : XcV X A cy yn) (hg : Gl X "isinstance") (hm : X.mg "isinstance" = none) :
    PEw X A Wx (.Call (.Name "isinstance" p1) [.Name n np, .Tuple [.Name xn p2, .Name yn p3] kk p4] [] pos) (fun σ H Q _ => match (generalizing := false) sg σ i, x with
    | some (.ref a), some (a', .own k, d) => a = a' ∧ (∀ dd, d = some dd → ∃ fs, H dd = some (.xd fs)) ∧ (match G.exn k with
      | some _ => (match G.isa k cx, G.isa k cy with
        | some b, some b' => Q (.bl (b || b')) H
        | _, _ => False)
      | none => False)
    | _, _ => False) := by
  obtain ⟨cv, hcv, kv⟩ := xcv_pe (p2 := p2) hc
  obtain ⟨cw, hcw, kw⟩ := xcv_pe (p2 := p3) hc2
  have hs2 : starEach [.Tuple [.Name xn p2, .Name yn p3] kk p4] X.env = (false, eval (.Tuple [.Name xn p2, .Name yn p3] kk p4) X.env) :: starEach [] X.env := rfl
  have hs1 : starEach [.Name n np, .Tuple [.Name xn p2, .Name yn p3] kk p4] X.env = (false, eval (.Name n np) X.env) :: starEach [.Tuple [.Name xn p2, .Name yn p3] kk p4] X.env := rfl
  have hs3 : starEach [.Name yn p3] X.env = (false, eval (.Name yn p3) X.env) :: starEach [] X.env := rfl
  have hs4 : starEach [.Name xn p2, .Name yn p3] X.env = (false, eval (.Name xn p2) X.env) :: starEach [.Name yn p3] X.env := rfl
  refine ⟨fun pins s σ H Q I ⟨σW, HW, q, ee, rs, rh, h, nn, xr⟩ => ?_⟩
  dsimp only at h
  cases es : sg σW i with
  | none => rw [es] at h; exact h.elim
  | some w0 =>
  rw [es] at h
  cases w0 <;> first | (exact False.elim h; done) | skip
  rename_i a
  cases x with
  | none => exact h.elim
  | some z =>
  obtain ⟨a', xc, d⟩ := z
  cases xc with
  | blt _ => exact h.elim
  | own k =>
  dsimp only at h
  obtain ⟨rfl, hdd, h⟩ := h
  split at h
  · rename_i xi ek
    split at h
    · rename_i b b' eb eb'
      have T := (gf.exc k xi ek).xf
      have kt := fun cx b => gf.xsa k xi cx b ek
      obtain ⟨v0, e0, r0⟩ := rs.get (sg_eq es)
      obtain rfl := r0.i_ref
      refine (pe_callB (call_xis2 (hx _ rfl) T (kt cx b eb) kv (kt cy b' eb') kw) hg hm (by decide +kernel) (pa_cons (pe_var hN hv hd hcd) (pa_cons (pe_tup (pa_cons hcv (pa_cons hcw pa_nil hs3) hs4)) pa_nil hs2) hs1) (by decide) (by decide) hs1 rfl).run pins s σ H Q I ⟨_, e0, ?_⟩
      refine ⟨by show 2 ≤ sizeLine; decide, fun p hp => ⟨p, rfl, upd_same, fun dd e => ?_, ?_⟩⟩
      · obtain ⟨fs, ef⟩ := hdd dd e
        obtain ⟨xs, ex, _⟩ := rh _ _ ef
        exact ⟨xs, by rw [upd_ne (ne_of_none ex hp)]; exact ex⟩
      · exact nn _ _ _ _ (TLe.new hp) .bl (rh.new0 hp) h
    · exact h.elim
  · exact h.elim
end
end Uw

namespace Uw
open PySem PySem.Spec PyProof.Rows L2
section
variable {X : Cx} {A : Ad} {Wx : WX} {G : GT}
variable {a b e o i : Expr} {es : List Expr} {ta tb te to ti : TEW} {tt : TTW} {ts tz : TAW} {pos p pos' apos tpos : Pos}
/-! ### list(range(..)) -/
theorem rel_rg {Ω : Gd} {H : Hp} (lo : Int) : ∀ l : List Nat, RelWs Ω H (l.map fun k : Nat => W.int (lo + k)) (l.map fun k : Nat => V.int (lo + (k : Nat)))
  | [] => .nil
  | k :: l => .cons .int (rel_rg lo l)
theorem pew_lrg1 {p1 p2 : Pos} (hc : X.calm = true) (hgl : Gl X "list") (hml : X.mg "list" = none) (hg : Gl X "range") (hm : X.mg "range" = none) (ha : PEw X A Wx a ta) (hs : starEach [a] X.env = [(false, eval a X.env)]) :
    PEw X A Wx (.Call (.Name "list" p) [.Call (.Name "range" p1) [a] [] p2] [] pos) (fun σ H Q E => ta σ H (fun x H1 => match x with
    | .int j => (-(2 ^ 62) ≤ j ∧ j < 2 ^ 62) ∧ (((List.range j.toNat).map fun k : Nat => W.int k).length ≤ 2 ^ 24 ∧ ∀ p, H1 p = none → Q (.ref p) (updW H1 p (.lst ((List.range j.toNat).map fun k : Nat => W.int k))))
    | _ => False) E) := by
  refine peW (pe_listRg hc hgl hml (prg_1 hg hm ha hs) rfl) fun σ H Q ⟨σW, HW, q, ee, rs, rh, h, nn, xr⟩ => ⟨σW, HW, _, ee, rs, rh, h, fun x HW1 v H1 t1 rx rh1 q1 => ?_, xr⟩
  cases x <;> first | (exact False.elim q1; done) | skip
  rename_i j
  obtain rfl := rx.i_int
  obtain ⟨⟨h1, h2⟩, h3, h4⟩ := q1
  rw [List.length_map, List.length_range] at h3
  refine ⟨j, rfl, ⟨by decide, by decide, h1, h2, by rw [Int.sub_zero]; exact h3⟩, fun p hp => ?_⟩
  have r := rel_rg (Ω := om X A) (H := H1) 0 (List.range j.toNat)
  simp only [Int.zero_add] at r
  have e : rgV 0 j = (List.range j.toNat).map fun k : Nat => V.int (k : Nat) := by unfold rgV; simp only [Int.zero_add, Int.sub_zero]
  rw [e]
  exact nn _ _ _ _ (t1.trans (TLe.new hp)) .ref (rh1.newL hp r) (h4 p (rh1.free hp))
theorem pew_lrg2 {p1 p2 : Pos} (hc : X.calm = true) (hgl : Gl X "list") (hml : X.mg "list" = none) (hg : Gl X "range") (hm : X.mg "range" = none) (ha : PEw X A Wx a ta) (hb : PEw X A Wx b tb) (hs : starEach [a, b] X.env = [(false, eval a X.env), (false, eval b X.env)]) (hs2 : starEach [b] X.env = [(false, eval b X.env)]) :
    PEw X A Wx (.Call (.Name "list" p) [.Call (.Name "range" p1) [a, b] [] p2] [] pos) (fun σ H Q E => ta σ H (fun x H1 => tb σ H1 (fun y H2 => match x, y with
    | .int i, .int j => (-(2 ^ 62) ≤ i ∧ i < 2 ^ 62 ∧ -(2 ^ 62) ≤ j ∧ j < 2 ^ 62) ∧ (((List.range (j - i).toNat).map fun k : Nat => W.int (i + k)).length ≤ 2 ^ 24 ∧ ∀ p, H2 p = none → Q (.ref p) (updW H2 p (.lst ((List.range (j - i).toNat).map fun k : Nat => W.int (i + k)))))
    | _, _ => False) E) E) := by
  refine peW (pe_listRg hc hgl hml (prg_2 hg hm ha hb (by rw [hs, hs2]) hs2 (by rw [hs2]; rfl)) rfl) fun σ H Q ⟨σW, HW, q, ee, rs, rh, h, nn, xr⟩ => ⟨σW, HW, _, ee, rs, rh, h, fun x HW1 v H1 t1 rx rh1 q1 => ⟨σW, HW1, _, ee, rs.mono t1, rh1, q1, fun y HW2 u H2 t2 ry rh2 q2 => ?_, xr.later t1⟩, xr⟩
  cases x <;> first | (exact False.elim q2; done) | skip
  cases y <;> first | (exact False.elim q2; done) | skip
  rename_i i j
  obtain rfl := rx.i_int
  obtain rfl := ry.i_int
  obtain ⟨⟨h1, h2, h3, h4⟩, h5, h6⟩ := q2
  rw [List.length_map, List.length_range] at h5
  refine ⟨i, j, rfl, rfl, ⟨h1, h2, h3, h4, h5⟩, fun p hp => ?_⟩
  exact nn _ _ _ _ ((t1.trans t2).trans (TLe.new hp)) .ref (rh2.newL hp (rel_rg i _)) (h6 p (rh2.free hp))
/-! ### slices -/
def canSl (Ω : Gd) : V → Option Int → Option Int → Hp → VK → Prop := fun v lo hi H Q => ∃ x HW q, RelW Ω H x v ∧ RelH Ω HW H ∧ slcW x lo hi HW q ∧ Nrm Ω H q Q
theorem RelWs.cut {Ω : Gd} {H : Hp} {ws : List W} {vs : List V} (r : RelWs Ω H ws vs) (lo hi : Option Int) : RelWs Ω H (cutW ws lo hi) (cutV vs lo hi) := by
  unfold cutW cutV
  rw [r.length]
  exact (r.drop _).take _
theorem sl_any : SlR X (canSl (om X A)) := by
  intro pins s σ H v vv vl vu lo hi sl Q I r hs pl pu ⟨x, HW, q, rx, rh, h, n⟩
  cases x <;> first | (exact False.elim h; done) | skip
  · obtain rfl := rx.i_str
    exact sl_str pins s σ H _ vv vl vu lo hi sl Q I r hs pl pu ⟨_, rfl, h.1, n.here .str rh h.2⟩
  · rename_i ws
    obtain ⟨b, xs, rfl, sb, rb⟩ := rx.i_tup
    replace h : q (.tup (cutW ws lo hi)) HW := h
    refine sl_tupA pins s σ H _ vv vl vu lo hi sl Q I r hs pl pu ⟨b, xs, rfl, sb, fun hw => ?_, fun _ p hp => ?_⟩
    · have e : cutW ws lo hi = ws := by
        unfold cutW
        rw [rb.length, hw.1, hw.2, List.drop_zero, Nat.sub_zero, ← rb.length, List.take_length]
      rw [e] at h
      exact n.here (.tup sb rb) rh h
    · have t := TLe.new (Ω := om X A) (o := HO.tup (cutV xs lo hi)) hp
      exact n _ _ _ _ t (.tup (SqT.of upd_same) ((rb.cut lo hi).mono t)) (rh.new0 hp) h
  · rename_i b
    obtain rfl := rx.i_ref
    replace h : (match HW b with
      | some (.lst ws) => ∀ p, HW p = none → q (.ref p) (updW HW p (.lst (cutW ws lo hi)))
      | _ => False) := h
    cases eb : HW b with
    | none => rw [eb] at h; exact h.elim
    | some ob =>
      rw [eb] at h
      cases ob <;> first | (exact False.elim h; done) | skip
      obtain ⟨xs, ex, ra⟩ := rh _ _ eb
      refine sl_list pins s σ H _ vv vl vu lo hi sl Q I r hs pl pu ⟨b, xs, rfl, SqL.of ex, fun p hp => ?_⟩
      exact n _ _ _ _ (TLe.new hp) .ref (rh.newL hp (ra.cut lo hi)) (h p (rh.free hp))
  · rename_i ns
    obtain ⟨b, rfl, sf⟩ := rx.i_scr
    replace h : ∀ p, HW p = none → q (.ref p) (updW HW p (.lst ((cutW ns lo hi).map W.int))) := h
    refine sl_list pins s σ H _ vv vl vu lo hi sl Q I r hs pl pu ⟨b, ns.map V.int, rfl, sf.sq, fun p hp => ?_⟩
    have e : cutV (ns.map V.int) lo hi = (cutW ns lo hi).map V.int := by
      unfold cutV cutW
      rw [List.length_map, ← List.map_drop, ← List.map_take]
    rw [e]
    exact n _ _ _ _ (TLe.new hp) .ref (rh.newL hp (rel_ints _)) (h p (rh.free hp))
abbrev TPW := StW → HpW → (Option Int → HpW → Prop) → EW → Prop
def canP (Ω : Gd) (Wx : WX) (t : TPW) : TO := fun σ H Q => ∃ σW HW q e, RelS Ω H σW σ ∧ RelH Ω HW H ∧ t σW HW q e ∧ (∀ b HW' H', TLe Ω H H' → RelH Ω HW' H' → q b HW' → Q b H') ∧ Xrm Ω H e (fun c d H' => Wx c d σ H')
abbrev POw (X : Cx) (A : Ad) (Wx : WX) (e : Option Expr) (t : TPW) : Prop := PO X e (canP (om X A) Wx t)
theorem poW {e : Option Expr} {t t' : TO} (h : PO X e t) (w : ∀ σ H Q, t' σ H Q → t σ H Q) : PO X e t' := ⟨fun pins s σ H Q I q => h.run pins s σ H Q I (w _ _ _ q)⟩
theorem pow_none : POw X A Wx none (fun _ H Q _ => Q none H) := poW po_none fun σ H Q ⟨σW, HW, q, ee, rs, rh, h, n, xr⟩ => n _ _ _ TLe.refl rh h
theorem pow_some (ha : PEw X A Wx a ta) : POw X A Wx (some a) (fun σ H Q E => ta σ H (fun x H1 => match x with
    | .int i => Q (some i) H1
    | _ => False) E) := poW (po_some ha) fun σ H Q ⟨σW, HW, q, ee, rs, rh, h, n, xr⟩ => ⟨σW, HW, _, ee, rs, rh, h, fun x HW1 v H1 t1 rx rh1 q1 => by
  cases x <;> first | (exact False.elim q1; done) | skip
  obtain rfl := rx.i_int
  exact ⟨_, rfl, n _ _ _ t1 rh1 q1⟩, xr⟩
theorem pow_bad {e : Option Expr} : POw X A Wx e (fun _ _ _ _ => False) := ⟨fun _ _ _ _ _ _ ⟨_, _, _, _, _, _, h, _⟩ => h.elim⟩
theorem pew_slc {lo hi : Option Expr} {tl th : TPW} {p2 : Pos} (ha : PEw X A Wx a ta) (hl : POw X A Wx lo tl) (hh : POw X A Wx hi th) : PEw X A Wx (.Subscript a (.Slice lo hi none p2) pos) (fun σ H Q E => ta σ H (fun x H1 => tl σ H1 (fun l H2 => th σ H2 (fun u H3 => slcW x l u H3 Q) E) E) E) :=
  peW (pe_slice sl_any ha hl hh) fun σ H Q ⟨σW, HW, q, ee, rs, rh, h, n, xr⟩ => ⟨σW, HW, _, ee, rs, rh, h, fun x HW1 v H1 t1 rx rh1 q1 => ⟨σW, HW1, _, ee, rs.mono t1, rh1, q1, fun l HW2 H2 t2 rh2 q2 =>
    ⟨σW, HW2, _, ee, rs.mono (t1.trans t2), rh2, q2, fun u HW3 H3 t3 rh3 q3 => ⟨x, HW3, q, (rx.mono t2).mono t3, rh3, q3, n.later ((t1.trans t2).trans t3)⟩, xr.later (t1.trans t2)⟩, xr.later t1⟩, xr⟩
/-! ### [.., *e, ..] -/
theorem paw_star {sp : Pos} (ha : PEw X A Wx e te) (hr : PAw X A Wx es ts) : PAw X A Wx (.Starred e sp :: es) (fun σ H Q E => te σ H (fun x H1 => seqW x H1 fun ws => ts σ H1 (fun xs H2 => Q (ws ++ xs) H2) E) E) :=
  paW (StX.pa_star ha hr rfl) fun σ H Q ⟨σW, HW, q, ee, rs, rh, h, n, xr⟩ => ⟨σW, HW, _, ee, rs, rh, h, fun x HW1 v H1 t1 rx rh1 q1 => by
    cases x <;> first | (exact False.elim q1; done) | skip
    · obtain ⟨b, xs, rfl, sb, rb⟩ := rx.i_tup
      exact ⟨b, xs, rfl, .inl sb, σW, HW1, _, ee, rs.mono t1, rh1, q1, fun ws HW2 vs H2 t2 rws rh2 h2 => n _ _ _ _ (t1.trans t2) ((rb.mono t2).append rws) rh2 h2, xr.later t1⟩
    · rename_i b
      obtain rfl := rx.i_ref
      replace q1 : (match HW1 b with
        | some (.lst ws) => ts σW HW1 (fun xs H2 => q (ws ++ xs) H2) ee
        | _ => False) := q1
      cases eb : HW1 b with
      | none => rw [eb] at q1; exact q1.elim
      | some ob =>
        rw [eb] at q1
        cases ob <;> first | (exact False.elim q1; done) | skip
        obtain ⟨xs, ex, rb⟩ := rh1 _ _ eb
        exact ⟨b, xs, rfl, .inr (SqL.of ex), σW, HW1, _, ee, rs.mono t1, rh1, q1, fun ws HW2 vs H2 t2 rws rh2 h2 => n _ _ _ _ (t1.trans t2) ((rb.mono t2).append rws) rh2 h2, xr.later t1⟩, xr⟩
end
/-! ### two clauses -/
theorem lc2_weak {Ω : Gd} {Wx : WX} {ti : TIW} {tt : TTW} {ti1 : TIW} {tt1 : TTW} {te : TEW} {i j : Nat} (hij : i ≠ j) {σ : L2.St} {H : Hp} {Q : VK}
    (h : canE Ω Wx (fun σ H Q E => ti σ H (fun ws gd H1 => ∀ D, H1 D = none → lc2W ((σ.set j none).set i none) i j tt ti1 tt1 te D gd (fun H' => Q (.ref D) H') ws (updW H1 D (.lst []))) E) σ H Q) :
    tLc2 (canI Ω Wx ti) (gName i) (canT Ω WF tt) (canI Ω WF ti1) (gName j) (canT Ω WF tt1) (canE Ω WF te) [i, j] [j] σ H Q := by
  obtain ⟨σW, HW, q, ee, rs, rh, h, n, xr⟩ := h
  refine ⟨σW, HW, _, ee, rs, rh, h, fun ws gd HW1 J H1 t1 rh1 it hq D hD => ?_, xr⟩
  have hq := hq D (rh1.free hD)
  have tD : TLe Ω H1 (upd H1 D (.lst [])) := TLe.new hD
  refine ⟨fun k m H' => ∃ HW', m = ws.length - k ∧ k ≤ ws.length ∧ TLe Ω H1 H' ∧ RelH Ω HW' H' ∧ lc2W ((σW.set j none).set i none) i j tt ti1 tt1 te D gd (fun H' => q (.ref D) H') (ws.drop k) HW', ⟨ws.length, _, rfl, Nat.zero_le _, tD, rh1.newL hD .nil, hq⟩, ?_⟩
  rintro k m H' ⟨HW', rfl, hk, t2, rh2, hl⟩
  by_cases hlt : k < ws.length
  · have ed : ws.drop k = ws[k] :: ws.drop (k + 1) := List.drop_eq_getElem_cons hlt
    rw [ed] at hl
    obtain ⟨hg, hl⟩ := hl
    obtain ⟨go, yl⟩ := it.go k HW' H' ws[k] t2 rh2 hg (List.getElem?_eq_getElem hlt)
    refine .inr ⟨go, fun H'' => ∃ HW'', TLe Ω H1 H'' ∧ RelH Ω HW'' H'' ∧ lc2W ((σW.set j none).set i none) i j tt ti1 tt1 te D gd (fun H' => q (.ref D) H') (ws.drop (k + 1)) HW'', fun H'' ⟨HW'', a, b, c⟩ => ⟨ws.length - (k + 1), by omega, HW'', rfl, hlt, a, b, c⟩, fun x H3 y => ?_⟩
    obtain ⟨t3, rh3, rx⟩ := yl x H3 y
    have t13 := (t1.trans t2).trans t3
    have rs3 : RelS Ω H3 (((σW.set j none).set i none).set i (some ws[k])) (((σ.set j none).set i none).set i (some x)) := RelS.set rx i (((rs.mono t13).unset j none).unset i none)
    have w1 : L2.wipe (((σ.set j none).set i none).set i (some x)) [i, j] = L2.wipe σ [i, j] := by
      show ((((σ.set j none).set i none).set i (some x)).set j none).set i none = (σ.set j none).set i none
      rw [List.set_set, List.set_comm (some x) none hij, List.set_set, List.set_set]
    refine ⟨w1, _, HW', _, _, rs3, rh3, hl, fun b HW4 H4 t4 rh4 h4 => ?_, xrmF⟩
    cases b with
    | false => exact ⟨HW4, (t2.trans t3).trans t4, rh4, h4⟩
    | true =>
      refine ⟨_, HW4, _, _, rs3.mono t4, rh4, h4, fun ws1 gd1 HW5 J1 H5 t5 rh5 it1 h5 => ?_, xrmF⟩
      have t15 := ((t2.trans t3).trans t4).trans t5
      refine ⟨fun k1 m1 H' => ∃ HW', m1 = ws1.length - k1 ∧ k1 ≤ ws1.length ∧ TLe Ω H5 H' ∧ RelH Ω HW' H' ∧ lcW (((σW.set j none).set i none).set i (some ws[k])) j tt1 te D gd1 (lc2W ((σW.set j none).set i none) i j tt ti1 tt1 te D gd (fun H' => q (.ref D) H') (ws.drop (k + 1))) (ws1.drop k1) HW', ⟨ws1.length, HW5, rfl, Nat.zero_le _, TLe.refl, rh5, h5⟩, ?_⟩
      rintro k1 m1 H6 ⟨HW6, rfl, hk1, t6, rh6, hl6⟩
      by_cases hlt1 : k1 < ws1.length
      · have ed1 : ws1.drop k1 = ws1[k1] :: ws1.drop (k1 + 1) := List.drop_eq_getElem_cons hlt1
        rw [ed1] at hl6
        obtain ⟨hg6, hl6⟩ := hl6
        obtain ⟨go1, yl1⟩ := it1.go k1 HW6 H6 ws1[k1] t6 rh6 hg6 (List.getElem?_eq_getElem hlt1)
        refine .inr ⟨go1, fun H'' => ∃ HW'', TLe Ω H5 H'' ∧ RelH Ω HW'' H'' ∧ lcW (((σW.set j none).set i none).set i (some ws[k])) j tt1 te D gd1 (lc2W ((σW.set j none).set i none) i j tt ti1 tt1 te D gd (fun H' => q (.ref D) H') (ws.drop (k + 1))) (ws1.drop (k1 + 1)) HW'', fun H'' ⟨HW'', a, b, c⟩ => ⟨ws1.length - (k1 + 1), by omega, HW'', rfl, hlt1, a, b, c⟩, fun x1 H7 y1 => ?_⟩
        obtain ⟨t7, rh7, rx1⟩ := yl1 x1 H7 y1
        have t37 := ((t4.trans t5).trans t6).trans t7
        have e1 : L2.wipe (((σ.set j none).set i none).set i (some x)) [j] = ((σ.set j none).set i none).set i (some x) := by
          show (((σ.set j none).set i none).set i (some x)).set j none = _
          rw [List.set_set, List.set_comm (some x) none hij, List.set_set]
        have rs7 : RelS Ω H7 ((((σW.set j none).set i none).set i (some ws[k])).set j (some ws1[k1])) ((L2.wipe (((σ.set j none).set i none).set i (some x)) [j]).set j (some x1)) := by
          rw [e1]
          exact RelS.set rx1 j (rs3.mono t37)
        have w7 : L2.wipe ((L2.wipe (((σ.set j none).set i none).set i (some x)) [j]).set j (some x1)) [j] = L2.wipe (((σ.set j none).set i none).set i (some x)) [j] := by
          show (((((σ.set j none).set i none).set i (some x)).set j none).set j (some x1)).set j none = (((σ.set j none).set i none).set i (some x)).set j none
          rw [List.set_set, List.set_set]
        refine ⟨w7, _, HW6, _, _, rs7, rh7, hl6, fun b HW8 H8 t8 rh8 h8 => ?_, xrmF⟩
        cases b with
        | false => exact ⟨HW8, (t6.trans t7).trans t8, rh8, h8⟩
        | true =>
          refine ⟨_, HW8, _, _, rs7.mono t8, rh8, h8, fun y HW9 v9 H9 t9 r9 rh9 h9 => ?_, xrmF⟩
          obtain ⟨acc, ea, hz, h9⟩ := h9
          obtain ⟨xs, ex, ra⟩ := rh9 _ _ ea
          refine ⟨xs, ex, by rw [← ra.length]; exact hz, _, ?_, rh9.putL ex (ra.append (.cons r9 .nil)), h9⟩
          exact (((t6.trans t7).trans t8).trans t9).trans (TLe.put ex trivial)
      · have e : k1 = ws1.length := by omega
        subst e
        rw [List.drop_eq_nil_of_le (Nat.le_refl _)] at hl6
        obtain ⟨hg6, hl6⟩ := hl6
        exact .inl ⟨it1.stop _ HW6 H6 t6 rh6 hg6 (Nat.le_refl _), HW6, t15.trans t6, rh6, hl6⟩
  · have e : k = ws.length := by omega
    subst e
    rw [List.drop_eq_nil_of_le (Nat.le_refl _)] at hl
    obtain ⟨hg, hl⟩ := hl
    exact .inl ⟨it.stop _ HW' H' t2 rh2 hg (Nat.le_refl _), n _ _ _ _ (t1.trans t2) .ref rh2 hl⟩
section
variable {X : Cx} {A : Ad} {Wx : WX} {pos : Pos} {tt tt1 : TTW} {te : TEW}
theorem pew_lc2 {elt iter iter1 : Expr} {ifs ifs1 : List Expr} {x y : Str} {px py : Pos} {scope : Scope} {i j : Nat} (hij : i ≠ j) {tI tI1 : TIW} (hc : X.calm = true) (hN : X.N.Nodup) (hi : PI X (.Name x px) iter (canI (om X A) Wx tI)) (ok : BlkOk X.N X.env.scope scope [(x, i), (y, j)])
    (hg : ∀ (s : Shared) (H : Hp) (C : Addr) (cl : List (Str × Addr)) (fp : List Addr), PG (X.blk s H scope (compEnvC scope cl C X.env) fp) (.Name x px) (gName i))
    (ht : ∀ (s : Shared) (H : Hp) (C : Addr) (cl : List (Str × Addr)) (fp : List Addr), PTs (X.blk s H scope (compEnvC scope cl C X.env) fp) ifs (canT (om X A) WF tt))
    (hi1 : ∀ (s : Shared) (H : Hp) (C : Addr) (cl : List (Str × Addr)) (fp : List Addr), PI (X.blk s H scope (compEnvC scope cl C X.env) fp) (.Name y py) iter1 (canI (om X A) WF tI1))
    (hg1 : ∀ (s : Shared) (H : Hp) (C : Addr) (cl : List (Str × Addr)) (fp : List Addr), PG (X.blk s H scope (compEnvC scope cl C X.env) fp) (.Name y py) (gName j))
    (ht1 : ∀ (s : Shared) (H : Hp) (C : Addr) (cl : List (Str × Addr)) (fp : List Addr), PTs (X.blk s H scope (compEnvC scope cl C X.env) fp) ifs1 (canT (om X A) WF tt1))
    (he : ∀ (s : Shared) (H : Hp) (C : Addr) (cl : List (Str × Addr)) (fp : List Addr), PE (X.blk s H scope (compEnvC scope cl C X.env) fp) elt (canE (om X A) WF te)) (hs : ∀ x, foldedSetIterable iter X.env x = pure x) (hs1 : ∀ env x, foldedSetIterable iter1 env x = pure x) :
    PEw X A Wx (.ListComp elt [⟨.Name x px, iter, ifs, 0⟩, ⟨.Name y py, iter1, ifs1, 0⟩] scope pos) (fun σ H Q E => tI σ H (fun ws gd H1 => ∀ D, H1 D = none → lc2W ((σ.set j none).set i none) i j tt tI1 tt1 te D gd (fun H' => Q (.ref D) H') ws (updW H1 D (.lst []))) E) :=
  peW (pe_lc2 (vs1 := [j]) hc hN hi ok (by intro k hk; simp at hk; subst hk; simp) hg ht hi1 hg1 ht1 he hs hs1) fun σ H Q h => lc2_weak hij h
theorem psw_setLc2 {k : Nat} {z : Str} {pz : Pos} {elt iter iter1 : Expr} {ifs ifs1 : List Expr} {x y : Str} {px py : Pos} {scope : Scope} {i j : Nat} (hij : i ≠ j) {tI tI1 : TIW} {spos : Pos} (hc : X.calm = true) (hN : X.N.Nodup) (hy : X.N[k]? = some z) (hyl : X.env.scope.names.lookup z = some .local)
    (hsw : swapsWith (.ListComp elt [⟨.Name x px, iter, ifs, 0⟩, ⟨.Name y py, iter1, ifs1, 0⟩] scope pos) (some (.Name z pz)) spos.line X.env = pure true) (hi : PI X (.Name x px) iter (canI (om X A) Wx tI)) (ok : BlkOk X.N X.env.scope scope [(x, i), (y, j)])
    (hg : ∀ (s : Shared) (H : Hp) (C : Addr) (cl : List (Str × Addr)) (fp : List Addr), PG (X.blk s H scope (compEnvC scope cl C X.env) fp) (.Name x px) (gName i))
    (ht : ∀ (s : Shared) (H : Hp) (C : Addr) (cl : List (Str × Addr)) (fp : List Addr), PTs (X.blk s H scope (compEnvC scope cl C X.env) fp) ifs (canT (om X A) WF tt))
    (hi1 : ∀ (s : Shared) (H : Hp) (C : Addr) (cl : List (Str × Addr)) (fp : List Addr), PI (X.blk s H scope (compEnvC scope cl C X.env) fp) (.Name y py) iter1 (canI (om X A) WF tI1))
    (hg1 : ∀ (s : Shared) (H : Hp) (C : Addr) (cl : List (Str × Addr)) (fp : List Addr), PG (X.blk s H scope (compEnvC scope cl C X.env) fp) (.Name y py) (gName j))
    (ht1 : ∀ (s : Shared) (H : Hp) (C : Addr) (cl : List (Str × Addr)) (fp : List Addr), PTs (X.blk s H scope (compEnvC scope cl C X.env) fp) ifs1 (canT (om X A) WF tt1))
    (he : ∀ (s : Shared) (H : Hp) (C : Addr) (cl : List (Str × Addr)) (fp : List Addr), PE (X.blk s H scope (compEnvC scope cl C X.env) fp) elt (canE (om X A) WF te)) (hs : ∀ x, foldedSetIterable iter X.env x = pure x) (hs1 : ∀ env x, foldedSetIterable iter1 env x = pure x) :
    PSw X A Wx (.Assign [.Name z pz] (.ListComp elt [⟨.Name x px, iter, ifs, 0⟩, ⟨.Name y py, iter1, ifs1, 0⟩] scope pos) spos) (fun Dd σ H => tI σ H (fun ws gd H1 => ∀ D, H1 D = none → lc2W ((σ.set j none).set i none) i j tt tI1 tt1 te D gd (fun H' => Dd.nx (σ.set k (some (.ref D))) H') ws (updW H1 D (.lst []))) fun x H1 => Dd.ex x σ H1) :=
  psW (ps_setLc2 (vs1 := [j]) hc hN hy hyl hsw hi ok (by intro k hk; simp at hk; subst hk; simp) hg ht hi1 hg1 ht1 he hs hs1) fun D σ H ⟨σW, HW, DW, rs, rh, h, er⟩ => by
    refine lc2_weak (Wx := Wx) hij ⟨σW, HW, fun w HW' => DW.nx (σW.set k (some w)) HW', _, rs, rh, h, fun w HW1 v H1 t1 rw1 rh1 z => ?_, er.xrm rs⟩
    exact er.nx _ _ _ _ t1 (RelS.set rw1 k (rs.mono t1)) rh1 z
end
end Uw

namespace Uw
open PySem PySem.Spec PyProof.Rows L2
/-! ### d.get -/
def DctV (X : Cx) (x : V) (H : Hp) : Prop := ∃ a, x = .ref a ∧ (IsD H a ∨ ∃ es n, KDict X.K X.w a es n)
theorem dctV_is {X : Cx} {pins : List (Addr × Obj)} {σ : L2.St} {H : Hp} {s : Shared} {x : V} {v : Value} (I : Inv X pins σ H s) (r : RelV x v) (d : DctV X x H) : s.TypeIs v "dict" ∧ ∀ a, v = .ref a → ∃ ob, s.heap.get? a = some ob ∧ ob.dict = none := by
  obtain ⟨a, rfl, d⟩ := d
  obtain rfl : v = Value.ref a := r
  rcases d with d | ⟨es, n, D⟩
  · obtain ⟨h1, h2, _⟩ := isD_at I d
    exact ⟨h1, h2⟩
  · exact ⟨kd_type D I, fun b e => by cases e; exact ⟨_, I.kIn _ _ D.at_, rfl⟩⟩
section
variable {X : Cx} {o e : Expr} {es : List Expr} {to : TE} {t : TA} {r : V → List V → Hp → VK → Prop} {apos cpos : Pos}
theorem pe_dm (ho : PE X o to) (ha : PA X (e :: es) t) (hm : MtR X "dict.get" r) (hbase : attributeBase o "get" X.env (eval o X.env) = eval o X.env)
    (hfew : ((backTo cpos (starEach (e :: es) X.env)).all (fun x => !x.1) && (backToKw cpos (keywordEach [] X.env)).all (fun x => x.1.isSome)
      && decide ((e :: es).length + ([] : List Keyword).length + (if ([] : List Keyword).isEmpty then 0 else 1) < 30)) = true)
    (hline : (apos.endLine == cpos.line) = true) (hs : starEach (e :: es) X.env = (false, eval e X.env) :: starEach es X.env) (hplain : (backTo cpos (starEach es X.env)).any (·.1) = false) :
    PE X (.Call (.Attribute o "get" apos) (e :: es) [] cpos) (fun σ H Q => to σ H fun x H1 => DctV X x H1 ∧ t σ H1 fun vs H2 => r x vs H2 Q) := by
  refine ⟨fun pins s σ H Q I h => ?_⟩
  refine wpAny_Call_method_late hbase hfew hline rfl (thn (ho.run pins s σ H _ I h) fun v s1 ⟨x, H1, I1, r1, ty, q1⟩ => ?_)
  obtain ⟨h1, h2⟩ := dctV_is I1 r1 ty
  refine ⟨"dict", "dict.get", PySem.F.plainAttrs_dict, PySem.F.slot_dict_get, PySem.F.type_dict_get, h1, h2, ?_⟩
  have hA := ha.run cpos pins s1 σ H1 _ I1 q1
  rw [hs] at hA ⊢
  refine Calls.callWith_builtin (by show (false || (backTo cpos (starEach es X.env)).any (·.1)) = false; rw [hplain] <;> rfl) (Calls.evalArgs_plain ?_)
  exact thn hA fun us s2 ⟨vs, H2, I2, r2, q2⟩ => hm pins s2 σ H2 x vs v us Q I2 r1 r2 q2
end
section
variable {X : Cx} {A : Ad}
theorem dctO_ok {H : Hp} {HW : HpW} {a : Addr} {kvs : List (Key × W)} (rh : RelH (om X A) HW H) (e : dctO HW a = some kvs) : ∃ xs, Rd H a (.dK xs) ∧ RelKs (om X A) H kvs xs := by
  unfold dctO at e
  cases ea : HW a with
  | none => rw [ea] at e; cases e
  | some ob =>
    rw [ea] at e
    cases ob <;> first | (cases e; done) | skip
    · cases e
      obtain ⟨xs, ex, ra⟩ := rh _ _ ea
      exact ⟨xs, .inl ex, ra⟩
    · cases e
      obtain ⟨o, xs, ex, ra⟩ := rh _ _ ea
      exact ⟨xs, .inr ⟨o, ex⟩, ra⟩
theorem getD_rel {Ω : Gd} {H : Hp} {kvs : List (Key × W)} {xs : List (Key × V)} (r : RelKs Ω H kvs xs) (k : Key) {d : W} {z : V} (rd : RelW Ω H d z) : RelW Ω H ((valW kvs k).getD d) ((valV xs k).getD z) := by
  rcases r.val k with ⟨w, v, e1, e2, e3⟩ | ⟨e1, e2⟩
  · rw [e1, e2]; exact e3
  · rw [e1, e2]; exact rd
theorem mt_get (hu : X.A.units + 65 < cLine) : MtR X "dict.get" (canM (om X A) getM) := by
  intro pins s σ H v vs vv us Q I rv rvs ⟨x, ws, HW, q, rx, rw1, rh, h, n⟩
  have hu1 : X.A.units + 1 < cLine := by omega
  cases x <;> first | (exact False.elim h; done) | skip
  · rename_i a
    obtain rfl := rx.i_ref
    obtain rfl : vv = Value.ref a := rv
    match ws, h, rw1 with
    | [y], h, rw1 =>
      obtain ⟨z, zs, rfl, r1, r2⟩ := rw1.inv_cons
      obtain rfl := r2.inv_nil
      cases rvs with
      | cons ry rr =>
        cases rr
        replace h : (match dctO HW a with
          | some kvs => dgetW kvs y .non HW q
          | none => False) := h
        cases eo : dctO HW a with
        | none => rw [eo] at h; exact h.elim
        | some kvs =>
          rw [eo] at h
          obtain ⟨xs, ex, ra⟩ := dctO_ok rh eo
          unfold dgetW at h
          cases ek : keyW y with
          | none => rw [ek] at h; exact h.elim
          | some k =>
            rw [ek] at h
            obtain rfl := key_ok r1 ek
            exact d_get1 hu1 I (.inl ⟨xs, k, ex, rfl, rfl⟩) ry fun w' s' I' r' => ⟨_, H, I', r', n.here (getD_rel ra k .non) rh h⟩
    | [y, d], h, rw1 =>
      obtain ⟨z, zs, rfl, r1, r2⟩ := rw1.inv_cons
      obtain ⟨z2, zs2, rfl, r3, r4⟩ := r2.inv_cons
      obtain rfl := r4.inv_nil
      cases rvs with
      | cons ry rr =>
        cases rr with
        | cons ry2 rr =>
          cases rr
          replace h : (match dctO HW a with
            | some kvs => dgetW kvs y d HW q
            | none => False) := h
          cases eo : dctO HW a with
          | none => rw [eo] at h; exact h.elim
          | some kvs =>
            rw [eo] at h
            obtain ⟨xs, ex, ra⟩ := dctO_ok rh eo
            unfold dgetW at h
            cases ek : keyW y with
            | none => rw [ek] at h; exact h.elim
            | some k =>
              rw [ek] at h
              obtain rfl := key_ok r1 ek
              exact d_get2 hu1 I (.inl ⟨xs, k, ex, rfl, rfl⟩) ry ry2 fun w' s' I' r' => ⟨_, H, I', r', n.here (getD_rel ra k r3) rh h⟩
    | [], h, _ => exact False.elim h
    | _ :: _ :: _ :: _, h, _ => exact False.elim h
  · rename_i tx tb
    obtain ⟨rfl, kp, _⟩ := rx.i_kdc
    obtain ⟨es, m, D⟩ := kd_x kp
    obtain rfl : vv = Value.ref (A.ca tx) := rv
    have hm := PySem.W.mapOf_K (prog := X.prog) (w := X.w) I.kIn D.at_ D.lit
    match ws, h, rw1 with
    | [y], h, rw1 =>
      obtain ⟨z, zs, rfl, r1, r2⟩ := rw1.inv_cons
      obtain rfl := r2.inv_nil
      cases rvs with
      | cons ry rr =>
        cases rr
        cases y <;> first | (exact False.elim h; done) | skip
        rename_i k
        replace h : q ((tb.lookup k).getD .non) HW := h
        obtain rfl := r1.i_str
        obtain ⟨tk, rfl⟩ := ry
        refine call_meetsIn PySem.F.slot_dict_get hm.typeIs PySem.F.entry_dict_get (PySem.F.args_dict_get_2 _ _) (meets_dict_get (strKind X.prog X.w) (A.ca tx) (strKind_is X.prog X.w k tk) D.low) ⟨_, hm, ?_⟩
        rcases rx.kd (k := k) with ⟨w, u, z, e1, e2, e3, e4⟩ | ⟨e1, e2⟩
        · rw [PySem.W.find_K D.at_ e2]
          rw [e1] at h
          exact ⟨z, H, I.tok _, e3, n.here e4 rh h⟩
        · rw [PySem.W.find_K D.at_ e2]
          rw [e1] at h
          exact ⟨.non, H, I.tok _, rfl, n.here .non rh h⟩
    | [y, d], h, rw1 =>
      obtain ⟨z, zs, rfl, r1, r2⟩ := rw1.inv_cons
      obtain ⟨z2, zs2, rfl, r3, r4⟩ := r2.inv_cons
      obtain rfl := r4.inv_nil
      cases rvs with
      | cons ry rr =>
        cases rr with
        | cons ry2 rr =>
          cases rr
          cases y <;> first | (exact False.elim h; done) | skip
          rename_i k
          replace h : q ((tb.lookup k).getD d) HW := h
          obtain rfl := r1.i_str
          obtain ⟨tk, rfl⟩ := ry
          refine call_meetsIn PySem.F.slot_dict_get hm.typeIs PySem.F.entry_dict_get (PySem.F.args_dict_get_3 _ _ _) (meets_dict_get_default (strKind X.prog X.w) (A.ca tx) (strKind_is X.prog X.w k tk) D.low _) ⟨_, hm, ?_⟩
          rcases rx.kd (k := k) with ⟨w, u, z, e1, e2, e3, e4⟩ | ⟨e1, e2⟩
          · rw [PySem.W.find_K D.at_ e2]
            rw [e1] at h
            exact ⟨z, H, I.tok _, e3, n.here e4 rh h⟩
          · rw [PySem.W.find_K D.at_ e2]
            rw [e1] at h
            exact ⟨z2, H, I.tok _, ry2, n.here r3 rh h⟩
    | [], h, _ => exact False.elim h
    | y :: _ :: _ :: _, h, _ => cases y <;> exact False.elim h
theorem isDW_ok {H : Hp} {HW : HpW} {x : W} {v : V} (rx : RelW (om X A) H x v) (rh : RelH (om X A) HW H) (h : isDW HW x = true) : DctV X v H := by
  cases x <;> first | (cases h; done) | skip
  · rename_i a
    obtain rfl := rx.i_ref
    unfold isDW at h
    dsimp only at h
    cases ea : HW a with
    | none => rw [ea] at h; cases h
    | some ob =>
      rw [ea] at h
      cases ob <;> first | (cases h; done) | skip
      · obtain ⟨xs, ex, ra⟩ := rh _ _ ea
        exact ⟨a, rfl, .inl (.inl ⟨xs, .inl ex⟩)⟩
      · obtain ⟨o, xs, ex, ra⟩ := rh _ _ ea
        exact ⟨a, rfl, .inl (.inl ⟨xs, .inr ⟨o, ex⟩⟩)⟩
  · obtain ⟨rfl, kp, _⟩ := rx.i_kdc
    exact ⟨_, rfl, .inr (kd_x kp)⟩
variable {Wx : WX} {o e : Expr} {es : List Expr} {ta : TEW} {ts : TAW} {apos pos : Pos}
theorem pew_get (hu : X.A.units + 65 < cLine) (ho : PEw X A Wx o ta) (ha : PAw X A Wx (e :: es) ts) (hbase : attributeBase o "get" X.env (eval o X.env) = eval o X.env)
    (hfew : ((backTo pos (starEach (e :: es) X.env)).all (fun x => !x.1) && (backToKw pos (keywordEach [] X.env)).all (fun x => x.1.isSome)
      && decide ((e :: es).length + ([] : List Keyword).length + (if ([] : List Keyword).isEmpty then 0 else 1) < 30)) = true)
    (hline : (apos.endLine == pos.line) = true) (hs : starEach (e :: es) X.env = (false, eval e X.env) :: starEach es X.env) (hplain : (backTo pos (starEach es X.env)).any (·.1) = false) :
    PEw X A Wx (.Call (.Attribute o "get" apos) (e :: es) [] pos) (fun σ H Q E => ta σ H (fun x H1 => isDW H1 x = true ∧ ts σ H1 (fun ws H2 => getM x ws H2 Q) E) E) :=
  peW (pe_dm ho ha (mt_get hu) hbase hfew hline hs hplain) fun σ H Q ⟨σW, HW, q, ee, rs, rh, h, nn, xr⟩ => ⟨σW, HW, _, ee, rs, rh, h, fun x HW1 v H1 t1 rx rh1 q1 =>
    ⟨isDW_ok rx rh1 q1.1, σW, HW1, _, ee, rs.mono t1, rh1, q1.2, fun ws HW2 vs H2 t2 rws rh2 q2 => ⟨_, ws, HW2, q, rx.mono t2, rws, rh2, q2, nn.later (t1.trans t2)⟩, xr.later t1⟩, xr⟩
/-! ### displays -/
abbrev TPrW := StW → HpW → (List (Key × W) → HpW → Prop) → EW → Prop
def canPr (Ω : Gd) (Wx : WX) (t : TPrW) (σ : L2.St) (H : Hp) (Q : List (V × V) → Hp → Prop) : Prop := ∃ σW HW q e, RelS Ω H σW σ ∧ RelH Ω HW H ∧ t σW HW q e ∧ (∀ kvs HW' xs H', TLe Ω H H' → RelKs Ω H' kvs xs → RelH Ω HW' H' → q kvs HW' → Q (xs.map fun kv => (kV kv.1, kv.2)) H') ∧ Xrm Ω H e (fun c d H' => Wx c d σ H')
def PPw (X : Cx) (A : Ad) (Wx : WX) (pos : Pos) (keys : List (Option Expr)) (values : List Expr) (t : TPrW) : Prop := ∃ trs, PPs X pos keys values trs ∧ ∀ σ H Q, canPr (om X A) Wx t σ H Q → tPairs trs σ H Q
theorem RelKs.cons {κ : Type} {Ω : Gd} {H : Hp} {k : κ} {w : W} {v : V} {l : List (κ × W)} {s : List (κ × V)} (a : RelW Ω H w v) (b : RelKs Ω H l s) : RelKs Ω H ((k, w) :: l) ((k, v) :: s) := ⟨v, s, rfl, a, b⟩
theorem ppw_nil : PPw X A Wx pos [] [] (fun _ H Q _ => Q [] H) := ⟨[], pps_nil, fun σ H Q ⟨σW, HW, q, ee, rs, rh, h, n, xr⟩ => n [] HW [] H TLe.refl rfl rh h⟩
theorem ppw_bad : ∀ {keys : List (Option Expr)} {values : List Expr}, keys.all (·.isSome) = true → keys.length = values.length → PPw X A Wx pos keys values (fun _ _ _ _ => False) := by
  intro keys
  induction keys with
  | nil =>
    intro values _ hl
    cases values with
    | nil => exact ⟨[], pps_nil, fun σ H Q ⟨_, _, _, _, _, _, h, _⟩ => h.elim⟩
    | cons _ _ => cases hl
  | cons k ks ih =>
    intro values ha hl
    cases values with
    | nil => cases hl
    | cons v vs =>
      rw [List.all_cons, Bool.and_eq_true] at ha
      obtain ⟨k, rfl⟩ := Option.isSome_iff_exists.mp ha.1
      obtain ⟨trs, h, _⟩ := ih ha.2 (by simpa using hl)
      exact ⟨_, pps_cons (tk := fun _ _ _ => False) (tv := fun _ _ _ => False) ⟨fun _ _ _ _ _ _ z => False.elim z⟩ ⟨fun _ _ _ _ _ _ z => False.elim z⟩ h, fun σ H Q ⟨_, _, _, _, _, _, h, _⟩ => h.elim⟩
theorem ppw_cons {k v : Expr} {ks : List (Option Expr)} {vs : List Expr} {tk tv : TEW} {tr : TPrW} (hk : PEw X A Wx k tk) (hv : PEw X A Wx v tv) (hr : PPw X A Wx pos ks vs tr) :
    PPw X A Wx pos (some k :: ks) (v :: vs) (fun σ H Q E => tk σ H (fun y H1 => tv σ H1 (fun w H2 => match keyW y with
      | some z => tr σ H2 (fun kvs H3 => Q ((z, w) :: kvs) H3) E
      | none => False) E) E) := by
  obtain ⟨trs, h1, h2⟩ := hr
  refine ⟨_, pps_cons hk hv h1, fun σ H Q ⟨σW, HW, q, ee, rs, rh, h, n, xr⟩ => ?_⟩
  refine ⟨σW, HW, _, ee, rs, rh, h, fun y HW1 x H1 t1 rx rh1 q1 => ⟨σW, HW1, _, ee, rs.mono t1, rh1, q1, fun w HW2 z H2 t2 rz rh2 q2 => ?_, xr.later t1⟩, xr⟩
  dsimp only at q2
  cases ek : keyW y with
  | none => rw [ek] at q2; exact q2.elim
  | some k =>
    rw [ek] at q2
    obtain rfl := key_ok rx ek
    have t := t1.trans t2
    exact h2 σ H2 _ ⟨σW, HW2, _, ee, rs.mono t, rh2, q2, fun kvs HW3 xs H3 t3 r3 rh3 q3 => n _ _ _ _ (t.trans t3) (RelKs.cons (k := k) (rz.mono t3) r3) rh3 q3, xr.later t⟩
theorem RelKs.merge {Ω : Gd} {H : Hp} : ∀ {more : List (Key × W)} {ms : List (Key × V)} {l : List (Key × W)} {s : List (Key × V)}, RelKs Ω H more ms → RelKs Ω H l s → RelKs Ω H (mergeW l more) (mergeK s ms)
  | [], ms, l, s, h, b => by rw [show ms = [] from h]; exact b
  | (k, w) :: more, _, l, s, ⟨v, q, e, a, h⟩, b => by
    subst e
    show RelKs Ω H (mergeW (putW l k w) more) (mergeK (putK s k v) q)
    exact RelKs.merge h (RelKs.put a b)
theorem pew_dct {keys : List (Option Expr)} {values : List Expr} {tp : TPrW} (h : PPw X A Wx pos keys values tp) (hall : keys.all (·.isSome) = true) (hl : keys.length = values.length) (h0 : keys ≠ []) (h15 : keys.length ≤ 15) :
    PEw X A Wx (.Dict keys values pos) (fun σ H Q E => ∀ p, H p = none → tp σ (updW H p (.dct [])) (fun kvs H1 => H1 p = some (.dct []) ∧ kvs.length ≤ 15 ∧ Q (.ref p) (updW H1 p (.dct (mergeW [] kvs)))) E) := by
  obtain ⟨trs, h1, h2⟩ := h
  refine peW (pe_disp h1 hall hl h0 h15) fun σ H Q ⟨σW, HW, q, ee, rs, rh, h, n, xr⟩ => fun p hp => ?_
  have t : TLe (om X A) H (upd H p (.dK [])) := TLe.new hp
  refine h2 σ _ _ ⟨σW, _, _, ee, rs.mono t, rh.newD hp (ws := []) (xs := []) rfl, h p (rh.free hp), fun kvs HW' xs H' t' r' rh' q' => ?_, xr.later t⟩
  obtain ⟨q1, q2, q3⟩ := q'
  obtain ⟨ys, ey, ry⟩ := rh' _ _ q1
  obtain rfl : ys = [] := ry
  refine ⟨ey, xs, rfl, by rw [← r'.len]; exact q2, ?_⟩
  exact n _ _ _ _ (t.trans (t'.trans (TLe.put ey trivial))) .ref (rh'.putD ey (r'.merge (l := []) (s := []) rfl)) q3
theorem pew_dct0 : PEw X A Wx (.Dict [] [] pos) (fun σ H Q E => ∀ p, H p = none → (fun kvs H1 => H1 p = some (.dct []) ∧ kvs.length ≤ 15 ∧ Q (.ref p) (updW H1 p (.dct (mergeW [] kvs)))) ([] : List (Key × W)) (updW H p (.dct []))) := by
  refine peW pe_dnewK fun σ H Q ⟨σW, HW, q, ee, rs, rh, h, n, xr⟩ => fun p hp => ?_
  obtain ⟨_, _, h3⟩ := h p (rh.free hp)
  have e : updW (updW HW p (.dct [])) p (.dct (mergeW [] [])) = updW HW p (.dct []) := by
    funext a
    unfold updW
    split <;> rfl
  rw [e] at h3
  exact n _ _ _ _ (TLe.new hp) .ref (rh.newD hp (ws := []) (xs := []) rfl) h3
end
end Uw

namespace Uw
open PySem PySem.Spec PyProof.Rows L2
/-! ### several except clauses, with names or without -/
abbrev Cls := Value × Option Nat × (Addr → Value → Option Addr → TS)
def endsN (D : Ends) : Option Nat → Ends
  | none => D
  | some i => { nx := fun σ' H' => D.nx (σ'.set i none) H', rt := D.rt, bk := fun σ' H' => D.bk (σ'.set i none) H', ct := fun σ' H' => D.ct (σ'.set i none) H' }
def slotN (a : Addr) (σ : L2.St) : Option Nat → L2.St
  | none => σ
  | some i => σ.set i (some (.ref a))
def wManyN (K : PySem.W.Frag) (Wout : WX) (D : Ends) : List Cls → WX
  | [] => Wout
  | (c, oi, ts) :: r => fun cls d σ H => ∃ b, PySem.W.exmOne K cls c = some b ∧ (b = true → ∀ a, H a = none → ts a cls d (endsN D oi) (slotN a σ oi) H) ∧ (b = false → wManyN K Wout D r cls d σ H)
inductive HdN (X : Cx) : List ExceptHandler → List Cls → Prop
  | nil : HdN X [] []
  | cons {x : Str} {c : Value} {ts : Addr → Value → Option Addr → TS} {b₀ : Stmt} {suite : List Stmt} {np pos' : Pos} {nm : Option Str} {oi : Option Nat} {hds : List ExceptHandler} {l : List Cls} (hc : Names X x c)
      (hnm : (nm = none ∧ oi = none) ∨ ∃ n i, nm = some n ∧ oi = some i ∧ X.N[i]? = some n ∧ X.env.kindOf n = some .local)
      (hsu : ∀ (a : Addr) (oe : Obj) (cls : Value) (d : Option Addr) (pn : List (Addr × Obj)), Zc cls d oe → (∃ vs, oe.data = .fields vs) → PSs (X.suite a ((a, oe) :: pn)) (b₀ :: suite) (ts a cls d)) (r : HdN X hds l) :
      HdN X (.ExceptHandler (some (.Name x np)) nm (b₀ :: suite) pos' :: hds) ((c, oi, ts) :: l)
section
variable {X : Cx} {body : List Stmt} {h₀ : ExceptHandler} {hds : List ExceptHandler} {l : List Cls} {pos : Pos} {tb : WX → TS} {Wout : WX}
theorem ps_try_manyN (hs : X.stack = X.env :: X.outer) (hf : X.env.frame = some X.env.locals) (hN : X.N.Nodup) (tk : Takes X Wout)
    (hb : ∀ (W : WX) (pn : List (Addr × Obj)) (xe : Value → Shared → Prop), Takes (X.tr pn xe) W → PassesOwn (model X.prog X.w) X.A X.env xe → PSs (X.tr pn xe) body (tb W))
    (hh : HdN X (h₀ :: hds) l) : PS X (.Try body (h₀ :: hds) [] [] pos) (fun D σ H => tb (wManyN X.K Wout D l) D σ H) := by
  refine ⟨fun pins s σ H D I h => ?_⟩
  have ok := I.ok
  have hfr : X.A.frames = some (X.env :: X.outer) := by rw [ok.frames, hs]
  refine wpAny_Try_except ?_
  refine wpAny_mono ((hb (wManyN X.K Wout D l) (X.pn ++ pins) (fun e s₁ => wpAny (model X.prog X.w) X.A (noteFrame e X.env) (fun _ s₂ => wpAny (model X.prog X.w) X.A (setFlight e none) (fun _ s₃ =>
    wpAny (model X.prog X.w) X.A (handleBy e X.env (h₀ :: hds)) (SP X pins D) X.xe s₃) X.xe s₂) X.xe s₁) (fun u s' xx => ?_) PassesOwn.looking).run [] s σ H D (I.toTry _) h) (fun f s1 hsp => ?_) (fun e s1 he => he)
  · -- the catch
    obtain ⟨a, B, sI, pins', σ', H', cls, d, rfl, J', nb, up, sky, na, os, ag, w⟩ := xx
    have J : Inv X pins σ' H' sI := J'.ofTry ok
    have sky' : Sky B (X.env :: X.outer) a (Zc cls d) X.env.locals s'.heap := by rw [← hs]; exact sky
    show wpAny (model X.prog X.w) X.A (noteFrame (.ref a) X.env) _ _ _
    refine Sky.land Zc.steady hfr hf sky' fun h3 fl3 up3 => ?_
    have J3 : Inv X pins σ' H' { s' with heap := h3 } := J.landed nb fl3.1 (up.trans up3) os ag
    obtain ⟨oe3, vs3, he3, hz3, hd3⟩ := fl3.there
    have notFr : ∀ {h : Heap} {o : Obj} {vs : Array Value}, h.FunFrames B (X.env :: X.outer) → h.get? a = some o → o.data = .fields vs → a ∉ frs (X.env :: X.outer) := fun {h o vs} ff e dd hm => by
      obtain ⟨_, o', e', hnf⟩ := ff.mem hm
      rw [e] at e'; cases e'
      exact hnf _ dd
    have nfr := notFr fl3.2.2.1 he3 hd3
    have nL : a ≠ X.env.locals := fun z => nfr (List.mem_filterMap.mpr ⟨X.env, List.mem_cons_self, by rw [hf, z]⟩)
    have nF : a ∉ X.fs := fun hm => by
      obtain ⟨e, he, q⟩ := List.mem_filterMap.mp hm
      exact nfr (List.mem_filterMap.mpr ⟨e, List.mem_cons_of_mem _ he, q⟩)
    have S3 := J3.suite he3 hd3 na nL nF
    have go : ∀ {hds' : List ExceptHandler} {l' : List Cls}, HdN X hds' l' → wManyN X.K Wout D l' cls d σ' H' →
        wpAny (model X.prog X.w) X.A (handleBy (.ref a) X.env hds') (SP X pins D) X.xe { s' with heap := h3 } := by
      intro hds' l' hk
      induction hk with
      | nil =>
        intro w
        refine wpAny_handleBy_nil ?_
        obtain ⟨k1, k2, k3, oe, vs, T, oT, ts', he, hz, hd, h1, hr⟩ := id fl3
        unfold PySem.passOn
        refine wpAny_bind (wpAny_field he hd h1 ?_)
        rw [if_neg (show ¬ ((Value.ref T == Value.none) = true) from by simp)]
        have fin : wpAny (model X.prog X.w) X.A (setFlight (.ref a) X.env.frame) (fun _ s4 => wpAny (model X.prog X.w) X.A (throw (.ref a) : Sem Flow) (SP X pins D) X.xe s4) X.xe { s' with heap := h3 } := by
          rw [hf]
          refine HandSPX.setFlight_upZ fl3 fun h4 hh4 up4 => wpAny_throw (tk _ _ ?_)
          exact ⟨a, B, sI, pins, σ', H', cls, d, rfl, J, nb, (up.trans up3).trans up4, .inr (.inr (by rw [hs]; exact hh4)), na, os, ag, w⟩
        first
          | exact wpAny_bind (wpAny_pure (wpAny_bind fin))
          | exact wpAny_bind fin
      | @cons x c ts b₀ suite np pos' nm oi hds2 l2 hc hnm hsu r ih =>
        intro w
        obtain ⟨b, hb1, hyes, hno⟩ := w
        refine wpAny_handleBy_cons (codeAny_handlers_test ?_) (by intro q; cases q)
        have LT : PySem.W.Looks (model X.prog X.w) h3 (typeOf (.ref a)) cls := fun A Q E s k q => wpAny_typeOf_ref (k _ _ he3) (by rw [hz3.1]; exact q)
        have LM := PySem.W.exm_one (M := model X.prog X.w) (J3.kIn) LT hb1
        have test : ∀ {Q : Value → Shared → Prop} {E : Value → Shared → Prop}, Q c { s' with heap := h3 } → wpAny (model X.prog X.w) (X.A.mark (some (.ref a))) (eval (.Name x np) X.env) Q E { s' with heap := h3 } := fun {Q E} q => by
          obtain ⟨hg, hdbg, hm | ⟨hm, hv, hnn⟩⟩ := hc
          · exact ld_glob (X := X.suite a ((a, oe3) :: (X.pn ++ pins))) S3 hg hm q hdbg
          · exact ld_blt (X := X.suite a ((a, oe3) :: (X.pn ++ pins))) S3 hg hm hv q hnn hdbg
        refine test (LM.here ?_)
        cases b with
        | true =>
          rcases hnm with ⟨rfl, rfl⟩ | ⟨n, i, rfl, rfl, hi, hln⟩
          · refine codeAny_handlers_suite ?_
            refine HandSPX.lands_againZ fl3 fun h4 fl4 up4 => ?_
            have J4 : Inv X pins σ' H' { s' with heap := h4 } := J.landed nb fl4.1 ((up.trans up3).trans up4) os ag
            obtain ⟨oe4, vs4, he4, hz4, hd4⟩ := fl4.there
            have S4 := J4.suite he4 hd4 na nL nF
            refine wpAny_mono ((hsu a oe4 cls d (X.pn ++ pins) hz4 ⟨_, hd4⟩).run [] _ _ H' _ S4 (hyes rfl a na)) (fun f s6 hsp => ?_) (fun _ _ z => False.elim z)
            cases f with
            | next =>
              obtain ⟨σ6, H6, S6, q6⟩ := hsp
              exact ⟨_, _, S6.unsuite ok, q6⟩
            | brk =>
              obtain ⟨σ6, H6, S6, q6⟩ := hsp
              exact ⟨_, _, S6.unsuite ok, q6⟩
            | cont =>
              obtain ⟨σ6, H6, S6, q6⟩ := hsp
              exact ⟨_, _, S6.unsuite ok, q6⟩
            | ret u =>
              obtain ⟨v6, σ6, H6, S6, r6, q6⟩ := hsp
              exact ⟨_, _, _, S6.unsuite ok, r6, q6⟩
          · have hloc : Loc X.env.scope n := .inl hln
            refine codeAny_handlers_suite_as ?_
            refine HandSPX.lands_againZ fl3 fun h4 fl4 up4 => ?_
            have J4 : Inv X pins σ' H' { s' with heap := h4 } := J.landed nb fl4.1 ((up.trans up3).trans up4) os ag
            obtain ⟨oe4, vs4, he4, hz4, hd4⟩ := fl4.there
            have S4 := J4.suite he4 hd4 na nL nF
            refine store_ok (X := X.suite a ((a, oe4) :: (X.pn ++ pins))) (v := .ref a) S4 hN hi hloc rfl (fun s5 S5 => ?_) (.inr hln)
            refine wpAny_mono ((hsu a oe4 cls d (X.pn ++ pins) hz4 ⟨_, hd4⟩).run [] s5 _ H' _ S5 (hyes rfl a na)) (fun f s6 hsp => ?_) (fun _ _ z => False.elim z)
            have end_ : ∀ {σ6 : L2.St} {H6 : Hp} {Q : Shared → Prop}, Inv (X.suite a ((a, oe4) :: (X.pn ++ pins))) [] σ6 H6 s6 → (∀ s7, Inv X pins (σ6.set i none) H6 s7 → Q s7) →
                wpAny (model X.prog X.w) X.A (do bindName X.env n .none; unbindBehindTheSuite X.env n pos') (fun _ s7 => Q s7) X.xe s6 := fun {σ6 H6 Q} S6 hq => gone_ok (S6.unsuite ok) hN hi hln hq
            cases f with
            | next =>
              obtain ⟨σ6, H6, S6, q6⟩ := hsp
              exact end_ S6 fun s7 J7 => ⟨_, _, J7, q6⟩
            | brk =>
              obtain ⟨σ6, H6, S6, q6⟩ := hsp
              exact end_ S6 fun s7 J7 => ⟨_, _, J7, q6⟩
            | cont =>
              obtain ⟨σ6, H6, S6, q6⟩ := hsp
              exact end_ S6 fun s7 J7 => ⟨_, _, J7, q6⟩
            | ret u =>
              obtain ⟨v6, σ6, H6, S6, r6, q6⟩ := hsp
              exact end_ S6 fun s7 J7 => ⟨_, _, _, J7, r6, q6⟩
        | false =>
          show wpAny _ X.A (handleBy (.ref a) X.env hds2) _ _ _
          exact ih (hno rfl)
    exact go hh w
  · cases f with
    | next =>
      obtain ⟨σ', H', J', q⟩ := hsp
      exact wpAny_execs_nil ⟨σ', H', J'.ofTry ok, q⟩
    | brk =>
      obtain ⟨σ', H', J', q⟩ := hsp
      exact ⟨σ', H', J'.ofTry ok, q⟩
    | cont =>
      obtain ⟨σ', H', J', q⟩ := hsp
      exact ⟨σ', H', J'.ofTry ok, q⟩
    | ret u =>
      obtain ⟨v, σ', H', J', r, q⟩ := hsp
      exact ⟨v, σ', H', J'.ofTry ok, r, q⟩
end
/-- the clauses, read -/
abbrev ClsW := XC × Option Nat × (Option (Addr × XC × Option Addr) → TSW)
def clsW (G : GT) : List ClsW → EndsW → Ex → StW → HpW → Prop
  | [] => fun D x σ H => D.ex x σ H
  | (c, oi, ts) :: r => fun D x σ H => match G.exm x.cls c with
    | some true => (match oi with
      | none => ts none { D with ex := fun _ _ _ => False } σ H
      | some i => (match x.fs with
        | [] => ∀ a, H a = none → ts (some (a, x.cls, none)) (asEnds i D) (σ.set i (some (.ref a))) H
        | _ => ∀ a dd, H a = none → H dd = none → a ≠ dd → ts (some (a, x.cls, some dd)) (asEnds i D) (σ.set i (some (.ref a))) (updW H dd (.xd x.fs))))
    | some false => clsW G r D x σ H
    | none => False
inductive HdX (X : Cx) (A : Ad) : List ExceptHandler → List ClsW → Prop
  | nil : HdX X A [] []
  | cons {x : Str} {c : XC} {ts : Option (Addr × XC × Option Addr) → TSW} {b₀ : Stmt} {suite : List Stmt} {np pos' : Pos} {nm : Option Str} {oi : Option Nat} {hds : List ExceptHandler} {l : List ClsW} (hc : Names X x ((om X A).xv c))
      (hnm : (nm = none ∧ oi = none) ∨ ∃ n i, nm = some n ∧ oi = some i ∧ X.N[i]? = some n ∧ X.env.kindOf n = some .local)
      (hsu : ∀ (a : Addr) (oe : Obj) (xc : XC) (d : Option Addr) (pn : List (Addr × Obj)), Zc ((om X A).xv xc) d oe → (∃ vs, oe.data = .fields vs) → PSs (X.suite a ((a, oe) :: pn)) (b₀ :: suite) (canS (om X A) WF (ts (oi.map fun _ => (a, xc, d))))) (r : HdX X A hds l) :
      HdX X A (.ExceptHandler (some (.Name x np)) nm (b₀ :: suite) pos' :: hds) ((c, oi, ts) :: l)
section
variable {X : Cx} {A : Ad} {Wx : WX} {G : GT}
def clsN (X : Cx) (A : Ad) (l : List ClsW) : List Cls := l.map fun q => ((om X A).xv q.1, q.2.1, fun a cls d D σ H => ∃ xc, cls = (om X A).xv xc ∧ canS (om X A) WF (q.2.2 (q.2.1.map fun _ => (a, xc, d))) D σ H)
theorem HdX.n {hds : List ExceptHandler} {l : List ClsW} (h : HdX X A hds l) : HdN X hds (clsN X A l) := by
  induction h with
  | nil => exact .nil
  | cons hc hnm hsu r ih =>
    refine .cons hc hnm (fun a oe cls d pn hz hfl => ⟨fun pins s σ H D I ⟨xc, e, h⟩ => ?_⟩) ih
    subst e
    exact (hsu a oe xc d pn hz hfl).run pins s σ H D I h
theorem cls_ok (gf : GF X.w X.K X.mg A G) {D : Ends} {DW : EndsW} {σ σ' : L2.St} {H H' : Hp} {σW' : StW} {HW' : HpW} {y : Ex} {c : Value} {d : Option Addr} (er : EndsR (om X A) Wx H DW D) (t : TLe (om X A) H H') (rx : RelX (om X A) HW' H' y c d) (rs' : RelS (om X A) H' σW' σ') (rh' : RelH (om X A) HW' H') :
    ∀ {l : List ClsW}, clsW G l DW y σW' HW' → wManyN X.K Wx D (clsN X A l) c d σ' H'
  | [], z => er.ex _ _ _ _ _ _ _ t rx rs' rh' z
  | (cx, oi, ts) :: r, z => by
    unfold clsW at z
    cases em : G.exm y.cls cx with
    | none => rw [em] at z; exact z.elim
    | some b =>
      rw [em] at z
      refine ⟨b, by rw [rx.1]; exact gf.exm _ _ _ em, fun hb a ha => ?_, fun hb => ?_⟩
      · subst hb
        dsimp only at z
        cases oi with
        | none =>
          have ends0 : EndsR (om X A) WF H' { DW with ex := fun _ _ _ => False } D := ⟨fun a b c d e f g h => er.nx _ _ _ _ (t.trans e) f g h, er.rt.later t, fun a b c d e f g h => er.bk _ _ _ _ (t.trans e) f g h, fun a b c d e f g h => er.ct _ _ _ _ (t.trans e) f g h, fun _ _ _ _ _ _ _ _ _ _ _ z => z.elim⟩
          exact ⟨y.cls, rx.1, _, HW', _, rs', rh', z, ends0⟩
        | some i =>
          have ends : EndsR (om X A) WF H' (asEnds i DW) { nx := fun σ' H' => D.nx (σ'.set i none) H', rt := D.rt, bk := fun σ' H' => D.bk (σ'.set i none) H', ct := fun σ' H' => D.ct (σ'.set i none) H' } :=
            ⟨fun a b c d e f g h => er.nx _ _ _ _ (t.trans e) (f.unset i none) g h, er.rt.later t, fun a b c d e f g h => er.bk _ _ _ _ (t.trans e) (f.unset i none) g h, fun a b c d e f g h => er.ct _ _ _ _ (t.trans e) (f.unset i none) g h, fun _ _ _ _ _ _ _ _ _ _ _ z => z.elim⟩
          rcases rx.2 with ⟨hfs, rfl⟩ | ⟨dd, xs, hne, rfl, hfree, hxd, rk⟩
          · dsimp only at z
            rw [hfs] at z
            exact ⟨y.cls, rx.1, _, HW', _, RelS.set .ref i rs', rh', z a (rh'.free ha), ends⟩
          · have z' : ∀ a dd, HW' a = none → HW' dd = none → a ≠ dd → ts (some (a, y.cls, some dd)) (asEnds i DW) (σW'.set i (some (.ref a))) (updW HW' dd (.xd y.fs)) := by
              cases hy : y.fs with
              | nil => exact absurd hy hne
              | cons f r => dsimp only at z; rw [hy] at z; exact z
            refine ⟨y.cls, rx.1, _, updW HW' dd (.xd y.fs), _, RelS.set .ref i rs', ?_, z' a dd (rh'.free ha) hfree (fun e => by rw [e, hxd] at ha; cases ha), ends⟩
            intro b o e
            by_cases hbd : b = dd
            · subst hbd
              rw [updW_same] at e; cases e
              exact ⟨xs, hxd, rk⟩
            · rw [updW_ne hbd] at e
              exact rh' b o e
      · subst hb
        exact cls_ok gf (σ := σ) er t rx rs' rh' z
theorem psw_trym {h₀ : ExceptHandler} {hds : List ExceptHandler} {l : List ClsW} {body : List Stmt} {tb : TSW} {pos : Pos} (gf : GF X.w X.K X.mg A G) (hs : X.stack = X.env :: X.outer) (hf : X.env.frame = some X.env.locals) (hN : X.N.Nodup) (tk : Takes X Wx)
    (hb : ∀ (W : WX) (pn : List (Addr × Obj)) (xe : Value → Shared → Prop), Takes (X.tr pn xe) W → PassesOwn (model X.prog X.w) X.A X.env xe → PSs (X.tr pn xe) body (canS (om X A) W tb))
    (hh : HdX X A (h₀ :: hds) l) : PSw X A Wx (.Try body (h₀ :: hds) [] [] pos) (fun D σ H => tb { D with ex := clsW G l D } σ H) :=
  psW (ps_try_manyN (tb := fun W => canS (om X A) W tb) hs hf hN tk hb hh.n) fun D σ H ⟨σW, HW, DW, rs, rh, h, er⟩ => ⟨σW, HW, _, rs, rh, h, er.nx, er.rt, er.bk, er.ct, fun y σW' HW' c d σ' H' t rx rs' rh' z => cls_ok gf (σ := σ) er t rx rs' rh' z⟩
end
end Uw

/-! ### the model's operators, where a class has its own -/
namespace Uw
open PySem PySem.W PySem.Calls PyProof.Rows Builtin
section
variable {prog : Program} {w : World} {A : Around} {E : Value → Shared → Prop} {s : Shared} {K : Frag} {x C L f g : Addr} {h₀ : Heap} {m : Str → Option Value} {ox : Obj} {od : Option Obj}
theorem int_mul_declines {i : Int} {ti : Tok} {Q : Option Value → Shared → Prop} (he : s.heap.get? x = some ox) (hd : ox.data = .plain) (h : Q none s) :
    wpAny (model prog w) A (tryMethod (.int i ti) (PySem.dunder "mul") (.ref x)) Q E s := by
  unfold tryMethod
  have hT : s.TypeIs (.int i ti) "int" := by exact (rfl : typeOf (.int i ti) = pure (.type "int"))
  refine wpAny_bind (wpAny_callSpecial?_slot hT PySem.F.slot_int_mul ?_)
  refine wpAny_call_entry PySem.F.slot_int_mul hT PySem.F.entry_int_mul ?_ (PySem.F.args_int_mul_2 _ _)
  unfold Builtin.«int.__mul__» Builtin.Int.intBinary
  refine wpAny_bind ?_
  show wpAny _ _ (pure (Value.int i ti, [Value.ref x])) _ _ _
  refine wpAny_pure ?_
  refine wpAny_bind ?_
  show wpAny _ _ (pure i) _ _ _
  refine wpAny_pure ?_
  refine wpAny_bind ?_
  show wpAny _ _ (load x >>= fun o => _) _ _ _
  refine wpAny_bind (wpAny_load he ?_)
  dsimp only
  rw [hd]
  refine wpAny_pure ?_
  refine wpAny_bind (wpAny_rule (wpAny_pure ⟨_, rfl, wpAny_pure h⟩))
theorem own_rmul {i : Int} {ti : Tok} {Q : Value → Shared → Prop} (F : Fr h₀ L s.heap m) (X₀ : K.In h₀) (I : InstAt s.heap x ox C od) (hd : ox.data = .plain) (he : s.heap.get? x = some ox) (hc : selfFirst K C = true)
    (hs0 : findIn K (.ref C) (PySem.dunder "mul") = some (some (.ref g))) (hs : findIn K (.ref C) (dunderR "mul") = some (some (.ref f))) (hf : isFn K (.ref f) = true) (hsub : subIn K (.ref C) (.type "int") = some false)
    (h : wpAny (model prog w) A (call (.ref f) [.ref x, .int i ti]) (W.CmpBack Q) E s) : wpAny (model prog w) A (binaryOp .Mult (.int i ti) (.ref x)) Q E s := by
  have X := X₀.keeps F.keep
  obtain ⟨cd, rest, hcd, hm⟩ := ksp_first hc
  have one := ksp_try X I hs hf h
  have hlk := PySem.F.slot_int_mul.lookup
  have hlr := PySem.F.slot_int_rmul.lookup
  have dec : ∀ (Q : Option Value → Shared → Prop) (E : Value → Shared → Prop), Q none s → wpAny (model prog w) A (tryMethod (.int i ti) (PySem.dunder "mul") (.ref x)) Q E s := fun Q E h => int_mul_declines he hd h
  obtain ⟨hh, g', d, tt, os⟩ := s
  have L1 : Looks (model prog w) hh (typeOf (.ref x)) (.ref C) := I.type
  have L2 : Looks (model prog w) hh (typeOf (.int i ti)) (.type "int") := Looks.of_pure rfl
  have L3 : Looks (model prog w) hh (fillsNumberSlot (.ref C) "mul") true := fills_K X hcd hm hs0
  have L4 : Looks (model prog w) hh (fillsNumberSlot (.type "int") "mul") true := by
    intro A Q E s k q
    unfold fillsNumberSlot
    dsimp only
    rw [hlk, hlr]
    exact wpAny_bind (wpAny_pure (wpAny_bind (wpAny_pure (wpAny_pure q))))
  have L5 : Looks (model prog w) hh (isSubtype (.ref C) (.type "int")) false := looks_subIn X hsub
  have L7 : Looks (model prog w) hh (numberSlotInPython (.type "int") "mul") false := Looks.of_pure rfl
  have hne : (Value.type "int" == Value.ref C) = false := Bool.eq_false_iff.mpr fun q => by cases beq_iff_eq.mp q
  simp only [binaryOp, Operator.info]
  refine wpAny_holding (wpAny_bind ?_)
  unfold binaryOp1
  refine wpAny_bind (L2.at (wpAny_bind (L1.at (wpAny_bind (L4.at ?_)))))
  simp only [hne, Bool.false_eq_true, if_false]
  refine wpAny_bind (L3.at ?_)
  ksp_lk
  refine dec _ _ ?_
  ksp_lk
  refine wpAny_mono one (fun r s' hr' => ?_) fun _ _ e => e
  obtain ⟨v, rfl, hq⟩ := hr'
  ksp_lk
  exact hq
end
end Uw

namespace Uw
open PySem PySem.W PySem.Calls PyProof.Rows Builtin
section
variable {prog : Program} {w : World} {A : Around} {E : Value → Shared → Prop} {s : Shared} {K : Frag} {x C L f g : Addr} {h₀ : Heap} {m : Str → Option Value} {ox : Obj} {od : Option Obj} {b tb : Value}
/-- object.__ne__ of one whose class has an own == -/
theorem ne_body {Q : Value → Shared → Prop} (hu : A.in1.units < cLine) (X : K.In s.heap) (I : InstAt s.heap x ox C od)
    (hs : findIn K (.ref C) "__eq__" = some (some (.ref f))) (hf : isFn K (.ref f) = true)
    (h : wpAny (model prog w) A.in1 (call (.ref f) [.ref x, b]) (fun r s' => ∃ k, r = .bool k ∧ Q (.bool (!k)) s') E s) :
    wpAny (model prog w) A.in1 (Builtin.«object.__ne__» ⟨[.ref x, b], []⟩) (fun fin s' => ∃ v, fin = .done (.ret v) ∧ Q v s') E s := by
  unfold Builtin.«object.__ne__»
  refine wpAny_bind ?_
  show wpAny _ _ (pure (Value.ref x, [b])) _ _ _
  refine wpAny_pure ?_
  refine wpAny_bind (wpAny_cRoomFor hu ?_)
  refine wpAny_bind (ifBound_K X I hs hf (wpAny_mono h (fun v s' hv => ?_) fun _ _ e => e))
  obtain ⟨k, rfl, hq⟩ := hv
  dsimp only
  refine wpAny_bind (wpAny_truthy_bool ?_)
  exact wpAny_pure ⟨_, rfl, hq⟩
theorem own_ne {Q : Value → Shared → Prop} (hu : A.units < cLine) (hu1 : A.in1.units < cLine) (F : Fr h₀ L s.heap m) (X₀ : K.In h₀) (I : InstAt s.heap x ox C od) (hb : Looks (model prog w) s.heap (typeOf b) tb) (hn : notFirst K C tb = true)
    (hs : findIn K (.ref C) "__eq__" = some (some (.ref f))) (hne : findIn K (.ref C) "__ne__" = some (some (.builtin "object.__ne__"))) (hf : isFn K (.ref f) = true) (hsub : subIn K (.ref C) (.type "object") = some true)
    (h : wpAny (model prog w) A.in1 (call (.ref f) [.ref x, b]) (fun r s' => ∃ k, r = .bool k ∧ Q (.bool (!k)) s') E s) : wpAny (model prog w) A (richCompare .NotEq (.ref x) b) Q E s := by
  have X := X₀.keeps F.keep
  have one : wpAny (model prog w) A (tryCompare (.ref x) (cmpInfo .NotEq).2.1 b) (fun r s' => ∃ v, r = some v ∧ Q v s') E s := by
    unfold tryCompare
    refine wpAny_bind ?_
    simp only [callSpecialIfBound?, bindSpecialIfBound?]
    refine wpAny_holding (wpAny_bind (wpAny_bind (wpAny_bind (I.type.here ((looks_findIn X hne).here ?_)))))
    dsimp only
    have hbd := PySem.F.cmp_object.ne.bind (.ref x)
    have chk : ∀ (A' : Around) (Q : Unit → Shared → Prop), Q () s → wpAny (model prog w) A' (checkBuiltinCall "object.__ne__" ⟨[.ref x, b], []⟩) Q E s := by
      intro A' Q hq
      simp only [checkBuiltinCall, PySem.F.cmpKind_ne, PySem.F.cmpSplit_ne]
      refine wpAny_bind ?_
      unfold isInstance
      refine wpAny_bind (I.type.here ((looks_subIn X hsub).here ?_))
      have ha := PySem.F.cmpArgs_ne (.ref x) b
      cases hsig : Manifest.signature? "object.__ne__" with
      | none => exact wpAny_pure hq
      | some sig =>
        simp only [argsOk, hsig] at ha
        have h2 : Bind.checkArgs "object.__ne__" sig ⟨[.ref x, b], []⟩ = pure () := ha
        show wpAny _ A' (Bind.checkArgs "object.__ne__" sig ⟨[.ref x, b], []⟩) Q E _
        rw [h2]; exact wpAny_pure hq
    have cal : ∀ (Q' : Value → Shared → Prop), wpAny (model prog w) A.in1 (call (.ref f) [.ref x, b]) (fun r s' => ∃ k, r = .bool k ∧ Q' (.bool (!k)) s') E s → wpAny (model prog w) A (call (.builtin "object.__ne__") [.ref x, b]) Q' E s := by
      intro Q' h
      refine wpAny_call (codeAny_call_builtin PySem.F.cmp_object.ne.plain PySem.F.cmpEntry_ne (chk _ _ (wpAny_mono (ne_body (Q := Q') hu1 X I hs hf h) (fun fin s' h' => ?_) fun _ _ h' => h')))
      obtain ⟨v, rfl, hv⟩ := h'
      exact hv
    have fin : wpAny (model prog w) A (call (.builtin "object.__ne__") ([.ref x] ++ [b]) >>= fun v => pure (some v)) (fun a s' => wpAny (model prog w) A (match a with
            | some Value.notImplemented => pure none
            | none => pure none
            | some v => pure (some v)) (fun r s' => ∃ v, r = some v ∧ Q v s') E s') E s := by
      refine wpAny_bind (cal _ (wpAny_mono h (fun r s' z => ?_) fun _ _ e => e))
      obtain ⟨k, rfl, hq⟩ := z
      exact ⟨k, rfl, wpAny_pure (wpAny_pure ⟨_, rfl, hq⟩)⟩
    refine wpAny_bind (wpAny_askSetting (wpAny_ite ?_))
    rw [hbd]
    split
    · exact wpAny_bind (wpAny_pure (wpAny_pure fin))
    · exact wpAny_tryCatch (wpAny_bind (wpAny_pure (wpAny_pure fin)))
  unfold richCompare
  simp only [oneThing_ref]
  refine wpAny_holding (wpAny_bind (wpAny_cRoomFor hu ?_))
  refine wpAny_bind (I.type.here (wpAny_bind (hb.here ?_)))
  split
  · rename_i q
    have e : subIn K tb (.ref C) = some false := by
      rcases Bool.or_eq_true_iff.mp hn with e | e
      · rw [beq_iff_eq.mp e] at q; simp at q
      · exact beq_iff_eq.mp e
    refine wpAny_bind ((looks_subIn X e).here ?_)
    simp only [Bool.false_eq_true, if_false]
    refine wpAny_bind (wpAny_mono one (fun r s' z => ?_) fun _ _ e => e)
    obtain ⟨v, rfl, hq⟩ := z
    exact wpAny_pure hq
  · refine wpAny_bind (wpAny_pure ?_)
    simp only [Bool.false_eq_true, if_false]
    refine wpAny_bind (wpAny_mono one (fun r s' z => ?_) fun _ _ e => e)
    obtain ⟨v, rfl, hq⟩ := z
    exact wpAny_pure hq
end
end Uw

namespace Uw
open PySem PySem.Spec PyProof.Rows L2
section
variable {X : Cx} {A : Ad} {Wx : WX} {G : GT} {n : Nat} {c : CallW}
variable {a b e o : Expr} {es : List Expr} {ta tb te : TEW} {ts tz : TAW} {pos p apos : Pos}
/-- a def is called within a built-in's own call -/
theorem run_w1 {k : Str} {fi : FnI} {pins : List (Addr × Obj)} {σ : L2.St} {H : Hp} {s : Shared} {Q : VK} {us : List Value} {vs : List V} {ws r : List W} {HW : HpW} {q : QW} {ee : EW}
    (gf : GF X.w X.K X.mg A G) (F : FnsOk X.prog X.w X.K X.mg X.base A G n c) (hf : G.fn k = some fi) (hr : Room (n + 1) X.A) (tk : Takes X Wx) (I : Inv X pins σ H s) (rv : Vals vs us) (rw1 : RelWs (om X A) H ws vs)
    (hb : fi.bind [] ws [] = some r) (rh : RelH (om X A) HW H) (h : c k r HW q ee) (nn : Nrm (om X A) H q Q) (xr : Xrm (om X A) H ee (fun cl d H' => Wx cl d σ H')) :
    wpAny (model X.prog X.w) X.A.in1 (call (.ref (A.fa k)) us) (EP X pins σ Q) X.xe s := by
  obtain ⟨hs, hl, hb⟩ := FnI.bind_eq hb
  obtain ⟨all, bt, rel⟩ := gf.shp k fi hf _ _ hs s us [] I.kIn (by rw [← rv.length, ← rw1.length]) rfl
  obtain ⟨vr, r1, r2⟩ := rel H ws [] vs [] r rv .nil rw1 .nil hb
  refine wpAny_call (codeAny_mono ((F k fi hf).run X.A.in1 X.stack s H ⟨us, []⟩ all vr Q (fun cl d H' => Wx cl d σ H') hr.in1 I.env0.in1 bt r1 ⟨r, HW, q, ee, r2, rh, h, nn, xr⟩) fun r s' hq => ?_)
  cases r with
  | error e => exact xe_of tk I (fun _ _ _ z => z) hq
  | ok fl =>
    cases fl with
    | ret u => exact I.after hq
    | next => exact False.elim hq
    | brk => exact False.elim hq
    | cont => exact False.elim hq
/-- what stands behind an own operator -/
theorem ins_W {H : Hp} {HW : HpW} {x : W} {v : V} {cn : Str} (rh : RelH (om X A) HW H) (rx : RelW (om X A) H x v) (h : kncW HW x = some cn) : ∃ p dx fs, x = .ref p ∧ v = .ref p ∧ H p = some (.ins (A.ca cn) dx fs) := by
  cases x <;> first | (simp [kncW] at h; done) | skip
  rename_i p
  obtain rfl := rx.i_ref
  cases e : HW p with
  | none => simp [kncW, e] at h
  | some o =>
    cases o <;> simp [kncW, e] at h
    subst h
    obtain ⟨dx, xs, ex, _⟩ := rh _ _ e
    exact ⟨p, dx, xs, rfl, rfl, ex⟩
theorem ownM_ok {HW : HpW} {x : W} {m k : Str} (gf : GF X.w X.K X.mg A G) (h : ownM G HW x m = some k) (hm : opNm m = true) :
    ∃ cn ci, kncW HW x = some cn ∧ G.cl cn = some ci ∧ ci.meth.lookup m = some k ∧ Meth X.K (A.ca cn) m (A.fa k) ∧ OprOk X.K (A.ca cn) := by
  unfold ownM at h
  cases e1 : kncW HW x with
  | none => rw [e1] at h; cases h
  | some cn =>
    rw [e1] at h
    dsimp only at h
    cases e2 : G.cl cn with
    | none => rw [e2] at h; cases h
    | some ci =>
      rw [e2] at h
      exact ⟨cn, ci, rfl, e2, h, gf.met cn ci e2 m k h, gf.opr cn ci m k e2 h hm⟩
theorem call2_ok {f : CallW} {k : Str} {x y : W} {H : HpW} {Q : QW} {E : EW} (h : call2 G f k x y H Q E) : ∃ fi zs, G.fn k = some fi ∧ fi.bind [] [x, y] [] = some zs ∧ f k zs H Q E := by
  unfold call2 at h
  cases e1 : G.fn k with
  | none => rw [e1] at h; exact h.elim
  | some fi =>
    rw [e1] at h
    dsimp only at h
    cases e2 : fi.bind [] [x, y] [] with
    | none => rw [e2] at h; exact h.elim
    | some zs =>
      rw [e2] at h
      exact ⟨fi, zs, rfl, e2, h⟩
theorem back_E {pins : List (Addr × Obj)} {σ : L2.St} {Q : VK} {v : Value} {s : Shared} (h : EP X pins σ Q v s) : PySem.W.CmpBack (EP X pins σ Q) v s := by
  obtain ⟨x, H, I, r, q⟩ := h
  have w : ∃ x H, Inv X pins σ H s ∧ RelV x v ∧ Q x H := ⟨x, H, I, r, q⟩
  cases v <;> first | exact w | (exfalso; cases x <;> first | (cases r; done) | (obtain ⟨_, r⟩ := r; cases r))
end
end Uw

namespace Uw
open PySem PySem.Spec PyProof.Rows L2
theorem int_find (K : PySem.W.Frag) : ∀ op m r, dnB op = some (m, r) → m = PySem.dunder op.info.2 ∧ r = dunderR op.info.2 ∧ (∃ fo, PySem.W.findIn K (.type "int") (PySem.dunder op.info.2) = some fo) ∧ ∃ ro, PySem.W.findIn K (.type "int") (dunderR op.info.2) = some ro := by
  intro op m r h
  cases op <;> first | (cases h; done) | skip
  all_goals
    cases h
    exact ⟨by decide +kernel, by decide +kernel, Option.isSome_iff_exists.mp (by show (PySem.fastLookup _ _).isSome = true; decide +kernel), Option.isSome_iff_exists.mp (by show (PySem.fastLookup _ _).isSome = true; decide +kernel)⟩
theorem int_sub (K : PySem.W.Frag) (C : Addr) : PySem.W.subIn K (.type "int") (.ref C) = some false := by kernel_rfl
section
variable {X : Cx} {A : Ad} {Wx : WX} {G : GT} {n : Nat}
variable {a b e o : Expr} {ta tb : TEW} {pos : Pos}
theorem dnB_rr {op : Operator} {m r : Str} (h : dnB op = some (m, r)) : r ∈ (["__radd__", "__rmul__", "__rpow__", "__ror__"] : List Str) ∧ opNm m = true := by
  cases op <;> first | (cases h; done) | skip
  all_goals
    cases h
    exact ⟨by decide +kernel, by decide +kernel⟩
theorem op_binG {op : Operator} {L : Lv} {pins : List (Addr × Obj)} {σ : L2.St} {H : Hp} {s : Shared} {Q : VK} {x y : W} {v u : V} {vv uu : Value} {HW : HpW} {q : QW} {ee : EW}
    (gf : GF X.w X.K X.mg A G) (F : FnsOk X.prog X.w X.K X.mg X.base A G n L.c) (hr : Room n X.A) (tk : Takes X Wx) (I : Inv X pins σ H s) (rv : RelV v vv) (ru : RelV u uu) (rx : RelW (om X A) H x v) (ry : RelW (om X A) H y u) (rh : RelH (om X A) HW H)
    (h : binG G L op x y HW q ee) (nn : Nrm (om X A) H q Q) (xr : Xrm (om X A) H ee (fun cl d H' => Wx cl d σ H')) :
    wpAny (model X.prog X.w) X.A (binaryOp op vv uu) (EP X pins σ Q) X.xe s := by
  have plain : binW op x y HW q → wpAny (model X.prog X.w) X.A (binaryOp op vv uu) (EP X pins σ Q) X.xe s := fun h => op_bin (A := A) pins s σ H v u vv uu Q I rv ru ⟨x, y, HW, q, rx, ry, rh, h, nn⟩
  unfold binG at h
  cases ed : dnB op with
  | none => rw [ed] at h; exact plain h
  | some mr =>
    obtain ⟨m, r⟩ := mr
    rw [ed] at h
    dsimp only at h
    obtain ⟨em, er, ⟨fo, hfo⟩, ro, hro⟩ := int_find X.K op m r ed
    obtain ⟨hr1, hm1⟩ := dnB_rr ed
    obtain ⟨mF, hF⟩ := I.fr
    cases eo : ownM G HW x m with
    | some k =>
      rw [eo] at h
      obtain ⟨hc, h⟩ := h
      obtain ⟨cn, ci, e1, e2, e3, M, O⟩ := ownM_ok (X := X) (A := A) gf eo hm1
      obtain ⟨fi, zs, f1, f2, f3⟩ := call2_ok h
      obtain ⟨p, dx, fs, rfl, rfl, hp⟩ := ins_W rh rx e1
      obtain rfl : vv = Value.ref p := rv
      obtain ⟨mA, J, _⟩ := ins_get I.hok hp
      obtain ⟨od, J, _⟩ := J.look
      have run := run_w (us := [.ref p, uu]) (vs := [.ref p, u]) (ws := [.ref p, y]) (zs := []) (vs' := []) (ws' := []) (ks := []) gf F f1 hr tk I (.cons rfl (.cons ru .nil)) .nil (.cons .ref (.cons ry .nil)) .nil f2 rh f3 nn xr
      rcases hc with hc | hc
      · rw [e1] at hc
        obtain ⟨p2, dx2, fs2, rfl, rfl, hp2⟩ := ins_W rh ry hc.symm
        obtain rfl : uu = Value.ref p2 := ru
        obtain ⟨mA2, J2, _⟩ := ins_get I.hok hp2
        obtain ⟨od2, J2, _⟩ := J2.look
        exact PySem.W.binop_K hF I.ok.mod.kin J J2.type O.sf (by rw [← em]; exact M.at_) M.fn (thn run fun _ _ z => back_E z)
      · cases y <;> simp [isIntW] at hc
        rename_i i
        obtain rfl := ry.i_int
        obtain ⟨t, rfl⟩ := ru
        obtain ⟨rc, h1, h2⟩ := O.rr r hr1
        exact PySem.W.ksp_binT hF I.ok.mod.kin J rfl O.sf (by rw [← em]; exact M.at_) M.fn (by rw [← er]; exact h1) h2 hfo hro (int_sub _ _) (thn run fun _ _ z => back_E z)
    | none =>
      rw [eo] at h
      dsimp only at h
      split at h
      · rename_i i k k0 ek ek0
        obtain ⟨cn, ci, e1, e2, e3, M0, O⟩ := ownM_ok (X := X) (A := A) gf ek0 hm1
        have e4 : ci.meth.lookup r = some k := by
          unfold ownM at ek
          rw [e1] at ek
          dsimp only at ek
          rw [e2] at ek
          exact ek
        have M := gf.met cn ci e2 r k e4
        obtain ⟨fi, zs, f1, f2, f3⟩ := call2_ok h
        obtain ⟨p, dx, fs, rfl, rfl, hp⟩ := ins_W rh ry e1
        obtain rfl : uu = Value.ref p := ru
        obtain rfl := rx.i_int
        obtain ⟨t, rfl⟩ := rv
        obtain ⟨mA, J, _⟩ := ins_get I.hok hp
        obtain ⟨od, J, _⟩ := J.look
        cases ed
        exact own_rmul hF I.ok.mod.kin J rfl J.1 O.sf M0.at_ M.at_ M.fn O.si (thn (run_w (us := [.ref p, .int i t]) (vs := [.ref p, .int i]) (ws := [.ref p, .int i]) (zs := []) (vs' := []) (ws' := []) (ks := []) gf F f1 hr tk I (.cons rfl (.cons ⟨t, rfl⟩ .nil)) .nil (.cons .ref (.cons .int .nil)) .nil f2 rh f3 nn xr) fun _ _ z => back_E z)
      · exact plain h
theorem dnC_nm {op : CmpOp} {m : Str} (h : dnC op = some m) : opNm m = true ∧ (op = .NotEq ∧ m = "__eq__" ∨ op ≠ .NotEq ∧ m = (cmpInfo op).2.1) ∧ ∀ a b, compareOp op a b = richCompare op a b := by
  cases op <;> first | (cases h; done) | skip
  all_goals
    cases h
    exact ⟨by decide +kernel, by first | exact .inl ⟨rfl, rfl⟩ | exact .inr ⟨by simp, rfl⟩, fun _ _ => rfl⟩
theorem back_B {pins : List (Addr × Obj)} {σ : L2.St} {Q : VK} {v : Value} {s : Shared} (h : EP X pins σ (fun v H => ∃ k, v = .bl k ∧ Q (.bl (!k)) H) v s) : ∃ k, v = .bool k ∧ EP X pins σ Q (.bool (!k)) s := by
  obtain ⟨x, H, I, r, k, rfl, q⟩ := h
  obtain rfl : v = Value.bool k := r
  exact ⟨k, rfl, .bl (!k), H, I, rfl, q⟩
theorem op_cmpG {op : CmpOp} {L : Lv} {n1 : Nat} {pins : List (Addr × Obj)} {σ : L2.St} {H : Hp} {s : Shared} {Q : VK} {x y : W} {v u : V} {vv uu : Value} {HW : HpW} {q : QW} {ee : EW} (hu : X.A.units + 65 < cLine)
    (gf : GF X.w X.K X.mg A G) (F : FnsOk X.prog X.w X.K X.mg X.base A G n L.c) (hr : Room n X.A) (F1 : FnsOk X.prog X.w X.K X.mg X.base A G n1 L.i) (hr1 : Room (n1 + 1) X.A) (tk : Takes X Wx) (I : Inv X pins σ H s) (rv : RelV v vv) (ru : RelV u uu) (rx : RelW (om X A) H x v) (ry : RelW (om X A) H y u) (rh : RelH (om X A) HW H)
    (h : cmpG G L op x y HW q ee) (nn : Nrm (om X A) H q Q) (xr : Xrm (om X A) H ee (fun cl d H' => Wx cl d σ H')) :
    wpAny (model X.prog X.w) X.A (compareOp op vv uu) (EP X pins σ Q) X.xe s := by
  have plain : cmpW op x y HW q → wpAny (model X.prog X.w) X.A (compareOp op vv uu) (EP X pins σ Q) X.xe s := fun h => op_cmp (A := A) hu pins s σ H v u vv uu Q I rv ru ⟨x, y, HW, q, rx, ry, rh, h, nn⟩
  unfold cmpG at h
  cases ed : dnC op with
  | none => rw [ed] at h; exact plain h
  | some m =>
    rw [ed] at h
    dsimp only at h
    obtain ⟨hm1, hnm, hco⟩ := dnC_nm ed
    obtain ⟨mF, hF⟩ := I.fr
    cases eo : ownM G HW x m with
    | none => rw [eo] at h; exact plain h
    | some k =>
      rw [eo] at h
      obtain ⟨hc, h⟩ := h
      obtain ⟨cn, ci, e1, e2, e3, M, O⟩ := ownM_ok (X := X) (A := A) gf eo hm1
      obtain ⟨p, dx, fs, rfl, rfl, hp⟩ := ins_W rh rx e1
      rw [e1] at hc
      obtain ⟨p2, dx2, fs2, rfl, rfl, hp2⟩ := ins_W rh ry hc.symm
      obtain rfl : vv = Value.ref p := rv
      obtain rfl : uu = Value.ref p2 := ru
      obtain ⟨mA, J, _⟩ := ins_get I.hok hp
      obtain ⟨od, J, _⟩ := J.look
      obtain ⟨mA2, J2, _⟩ := ins_get I.hok hp2
      obtain ⟨od2, J2, _⟩ := J2.look
      rw [hco]
      have vals : Vals [V.ref p, V.ref p2] [Value.ref p, Value.ref p2] := .cons rfl (.cons rfl .nil)
      rcases hnm with ⟨rfl, rfl⟩ | ⟨hne, rfl⟩
      · rw [if_pos rfl] at h
        obtain ⟨fi, zs, f1, f2, f3⟩ := call2_ok h
        have run := run_w1 (us := [.ref p, .ref p2]) (vs := [.ref p, .ref p2]) (ws := [.ref p, .ref p2]) (Q := fun v H => ∃ k, v = .bl k ∧ Q (.bl (!k)) H) gf F1 f1 hr1 tk I vals (.cons .ref (.cons .ref .nil)) f2 rh f3
          (fun w HW' v' H' t r rh' z => by
            obtain ⟨b, rfl, z⟩ := z
            obtain rfl := r.i_bl
            exact ⟨b, rfl, nn _ _ _ _ t .bl rh' z⟩) xr
        exact own_ne (by omega) (by show X.A.units + 1 < cLine; omega) hF I.ok.mod.kin J J2.type (by simp [PySem.W.notFirst]) M.at_ O.ne M.fn O.so (thn run fun _ _ z => back_B z)
      · rw [if_neg hne] at h
        obtain ⟨fi, zs, f1, f2, f3⟩ := call2_ok h
        have run := run_w (us := [.ref p, .ref p2]) (vs := [.ref p, .ref p2]) (ws := [.ref p, .ref p2]) (zs := []) (vs' := []) (ws' := []) (ks := []) gf F f1 hr tk I vals .nil (.cons .ref (.cons .ref .nil)) .nil f2 rh f3 nn xr
        exact PySem.W.cmp_K (by omega) hF I.ok.mod.kin J J2.type (by simp [PySem.W.notFirst]) M.at_ M.fn (thn run fun _ _ z => back_E z)
/-! ### the rules -/
/-- an operation on values, calls within it allowed -/
def OpW (X : Cx) (A : Ad) (Wx : WX) (f : Value → Value → Sem Value) (g : W → W → HpW → QW → EW → Prop) : Prop := ∀ (pins : List (Addr × Obj)) (σ : L2.St) (H : Hp) (s : Shared) (Q : VK) (x y : W) (v u : V) (vv uu : Value) (HW : HpW) (q : QW) (ee : EW),
  Inv X pins σ H s → RelV v vv → RelV u uu → RelW (om X A) H x v → RelW (om X A) H y u → RelH (om X A) HW H → g x y HW q ee → Nrm (om X A) H q Q → Xrm (om X A) H ee (fun cl d H' => Wx cl d σ H') → wpAny (model X.prog X.w) X.A (f vv uu) (EP X pins σ Q) X.xe s
theorem opw_bin {op : Operator} {L : Lv} (gf : GF X.w X.K X.mg A G) (F : FnsOk X.prog X.w X.K X.mg X.base A G n L.c) (hr : Room n X.A) (tk : Takes X Wx) : OpW X A Wx (binaryOp op) (binG G L op) :=
  fun _ _ _ _ _ _ _ _ _ _ _ _ _ _ I r1 r2 r3 r4 r5 h nn xr => op_binG gf F hr tk I r1 r2 r3 r4 r5 h nn xr
theorem opw_cmp {op : CmpOp} {L : Lv} {n1 : Nat} (hu : X.A.units + 65 < cLine) (gf : GF X.w X.K X.mg A G) (F : FnsOk X.prog X.w X.K X.mg X.base A G n L.c) (hr : Room n X.A) (F1 : FnsOk X.prog X.w X.K X.mg X.base A G n1 L.i) (hr1 : Room (n1 + 1) X.A) (tk : Takes X Wx) : OpW X A Wx (compareOp op) (cmpG G L op) :=
  fun _ _ _ _ _ _ _ _ _ _ _ _ _ _ I r1 r2 r3 r4 r5 h nn xr => op_cmpG hu gf F hr F1 hr1 tk I r1 r2 r3 r4 r5 h nn xr
theorem call2_off {f : CallW} (o : ∀ k ws H Q E, ¬ f k ws H Q E) {k : Str} {x y : W} {H : HpW} {Q : QW} {E : EW} : ¬ call2 G f k x y H Q E := fun h => by
  obtain ⟨_, _, _, _, h⟩ := call2_ok h
  exact o _ _ _ _ _ h
theorem opw_binO {op : Operator} {L : Lv} (o : ∀ k ws H Q E, ¬ L.c k ws H Q E) : OpW X A Wx (binaryOp op) (binG G L op) :=
  fun pins σ H s Q x y v u vv uu HW q ee I r1 r2 r3 r4 r5 h nn xr => by
    refine op_bin (A := A) pins s σ H v u vv uu Q I r1 r2 ⟨x, y, HW, q, r3, r4, r5, ?_, nn⟩
    unfold binG at h
    split at h
    · exact h
    · split at h
      · exact (call2_off o h.2).elim
      · split at h
        · exact (call2_off o h).elim
        · exact h
theorem opw_cmpO {op : CmpOp} {L : Lv} (hu : X.A.units + 65 < cLine) (o : ∀ k ws H Q E, ¬ L.c k ws H Q E) (o1 : ∀ k ws H Q E, ¬ L.i k ws H Q E) : OpW X A Wx (compareOp op) (cmpG G L op) :=
  fun pins σ H s Q x y v u vv uu HW q ee I r1 r2 r3 r4 r5 h nn xr => by
    refine op_cmp (A := A) hu pins s σ H v u vv uu Q I r1 r2 ⟨x, y, HW, q, r3, r4, r5, ?_, nn⟩
    unfold cmpG at h
    split at h
    · exact h
    · split at h
      · obtain ⟨_, h⟩ := h
        split at h
        · exact (call2_off o1 h).elim
        · exact (call2_off o h).elim
      · exact h
theorem pew_binG {op : Operator} {L : Lv} (ho : OpW X A Wx (binaryOp op) (binG G L op)) (ha : PEw X A Wx a ta) (hb : PEw X A Wx b tb) :
    PEw X A Wx (.BinOp a op b pos) (fun σ H Q E => ta σ H (fun x H1 => tb σ H1 (fun y H2 => binG G L op x y H2 Q E) E) E) := by
  refine ⟨fun pins s σ H Q I ⟨σW, HW, q, ee, rs, rh, h, nn, xr⟩ => ?_⟩
  refine wpAny_BinOp (binT (R := fun x y H2 => ∃ xw yw HW2, TLe (om X A) H H2 ∧ RelW (om X A) H2 xw x ∧ RelW (om X A) H2 yw y ∧ RelH (om X A) HW2 H2 ∧ binG G L op xw yw HW2 q ee) ha hb I ?_ fun v u s2 x y H2 I2 rx ry z => ?_)
  · exact ⟨σW, HW, _, ee, rs, rh, h, fun x HW1 v H1 t1 rx rh1 h1 => ⟨σW, HW1, _, ee, rs.mono t1, rh1, h1, fun y HW2 u H2 t2 ry rh2 h2 => ⟨x, y, HW2, t1.trans t2, rx.mono t2, ry, rh2, h2⟩, xr.later t1⟩, xr⟩
  · obtain ⟨xw, yw, HW2, t, r1, r2, rh2, h2⟩ := z
    exact ho _ _ _ _ _ _ _ _ _ _ _ _ _ _ I2 rx ry r1 r2 rh2 h2 (nn.later t) (xr.later t)
theorem pew_cmpG {op : CmpOp} {L : Lv} (ho : OpW X A Wx (compareOp op) (cmpG G L op)) (ha : PEw X A Wx a ta) (hb : PEw X A Wx b tb) (hm : behindInMarks op b = false) :
    PEw X A Wx (.Compare a [op] [b] pos) (fun σ H Q E => ta σ H (fun x H1 => tb σ H1 (fun y H2 => cmpG G L op x y H2 Q E) E) E) := by
  refine ⟨fun pins s σ H Q I ⟨σW, HW, q, ee, rs, rh, h, nn, xr⟩ => ?_⟩
  refine wpAny_Compare1 (binT (R := fun x y H2 => ∃ xw yw HW2, TLe (om X A) H H2 ∧ RelW (om X A) H2 xw x ∧ RelW (om X A) H2 yw y ∧ RelH (om X A) HW2 H2 ∧ cmpG G L op xw yw HW2 q ee) ha hb I ?_ fun v u s2 x y H2 I2 rx ry z => ?_) hm
  · exact ⟨σW, HW, _, ee, rs, rh, h, fun x HW1 v H1 t1 rx rh1 h1 => ⟨σW, HW1, _, ee, rs.mono t1, rh1, h1, fun y HW2 u H2 t2 ry rh2 h2 => ⟨x, y, HW2, t1.trans t2, rx.mono t2, ry, rh2, h2⟩, xr.later t1⟩, xr⟩
  · obtain ⟨xw, yw, HW2, t, r1, r2, rh2, h2⟩ := z
    exact ho _ _ _ _ _ _ _ _ _ _ _ _ _ _ I2 rx ry r1 r2 rh2 h2 (nn.later t) (xr.later t)
theorem ptw_cmpG {op : CmpOp} {L : Lv} (ho : OpW X A Wx (compareOp op) (cmpG G L op)) (ha : PEw X A Wx a ta) (hb : PEw X A Wx b tb) (hm : behindInMarks op b = false) :
    PTw X A Wx (.Compare a [op] [b] pos) (fun σ H Q E => ta σ H (fun x H1 => tb σ H1 (fun y H2 => cmpG G L op x y H2 (fun z H3 => match z with
    | .bl k => Q k H3
    | _ => False) E) E) E) := by
  refine ⟨fun pins s σ H Q I ⟨σW, HW, q, ee, rs, rh, h, nn, xr⟩ => ?_⟩
  refine wpAny_isTrue_Compare1 (thn (ha.run pins s σ H _ I ⟨σW, HW, _, ee, rs, rh, h, nrm_stop, xr⟩) fun v s1 ⟨x, H1, I1, r1, xw, HW1, t1, rx, rh1, q1⟩ =>
    thn (hb.run pins s1 σ H1 _ I1 ⟨σW, HW1, _, ee, rs.mono t1, rh1, q1, nrm_stop, xr.later t1⟩) fun u s2 ⟨y, H2, I2, r2, yw, HW2, t2, ry, rh2, q2⟩ =>
    thn (ho _ _ _ _ (fun z H3 => ∃ k, z = .bl k ∧ Q k H3) _ _ _ _ _ _ _ _ _ I2 r1 r2 (rx.mono t2) ry rh2 q2 (fun w HW' v' H' t r rh' z => ?_) (xr.later (t1.trans t2))) fun c s3 ⟨z, H3, I3, r3, k, e, q3⟩ => ?_) hm
  · cases w <;> first | (exact False.elim z; done) | skip
    obtain rfl := r.i_bl
    exact ⟨_, rfl, nn _ _ _ ((t1.trans t2).trans t) rh' z⟩
  · subst e
    obtain rfl : c = Value.bool k := r3
    exact wpAny_truthy_bool ⟨H3, I3, q3⟩
end
end Uw

namespace Uw
open PySem PySem.Spec PyProof.Rows L2
/-! ### from the tree to T -/
structure CC where
  N : List Str
  sc : Scope
  fn : Str → Bool
  /-- within an except suite: the slot of its name -/
  ho : Option (Option Nat)
def CC.hot (C : CC) : Bool := C.ho.isSome
def slotOf (x : Str) : List Str → Option Nat
  | [] => none
  | y :: r => if y = x then some 0 else (match slotOf x r with
    | some i => some (i + 1)
    | none => none)
theorem slotOf_ok {x : Str} : ∀ {N : List Str} {i : Nat}, slotOf x N = some i → N[i]? = some x
  | [], i, h => by cases h
  | y :: r, i, h => by
    unfold slotOf at h
    split at h
    · rename_i e; cases h; simp [e]
    · split at h
      · rename_i j e; cases h; simpa using slotOf_ok e
      · cases h
def okNm (x : Str) : Bool := !(x == ("__debug__" : Str)) && !(x == ("__classdict__" : Str)) && !(x == ("__name__" : Str))
def visB (C : CC) (x : Str) : Bool := match C.sc.names.lookup x with
  | some .local => true
  | some .cell => true
  | some .free => true
  | _ => false
def locB (C : CC) (x : Str) : Bool := match C.sc.names.lookup x with
  | some .local => true
  | some .cell => C.fn x
  | _ => false
def locB0 (C : CC) (x : Str) : Bool := match C.sc.names.lookup x with
  | some .local => true
  | _ => false
def glB (C : CC) (x : Str) : Bool := match C.sc.names.lookup x with
  | some .globalImplicit => true
  | _ => false
def noStar : Expr → Bool
  | .Starred _ _ => false
  | _ => true
def noSlice : Expr → Bool
  | .Slice _ _ _ _ => false
  | _ => true
def noComp : Expr → Bool
  | .ListComp _ _ _ _ => false
  | .SetComp _ _ _ _ => false
  | .DictComp _ _ _ _ _ => false
  | _ => true
def noTup : Expr → Bool
  | .Tuple _ _ _ => false
  | _ => true
def noSet : Expr → Bool
  | .Set _ _ _ => false
  | _ => true
def noSup : Expr → Bool
  | .Call (.Name x _) [] [] _ => !(x == ("super" : Str))
  | _ => true
def isTup : Expr → Bool
  | .Tuple _ _ _ => true
  | _ => false
def plainT : Expr → Bool
  | .UnaryOp .Not _ _ => false
  | .BoolOp _ _ _ => false
  | .IfExp _ _ _ _ => false
  | .Compare _ _ _ _ => false
  | _ => true
def bltOf2 (f : Str) : Option Blt := if f = "sorted" then some .sorted else if f = "dict" then some .dict else if f = "sum" then some .sum else none
theorem bltOf2_ok {f : Str} {b : Blt} (h : bltOf2 f = some b) : bootBuiltins f = some b.val := by
  unfold bltOf2 at h
  repeat' split at h
  all_goals first
    | (rename_i e; cases h; rw [e]; decide +kernel)
    | cases h
def bltOf (f : Str) : Option Blt :=
  if f = "len" then some .len else if f = "int" then some .int else if f = "abs" then some .abs else if f = "all" then some .all else if f = "any" then some .any
  else if f = "list" then some .list else if f = "tuple" then some .tuple else if f = "str" then some .str else if f = "max" then some .max else if f = "min" then some .min else bltOf2 f
theorem bltOf_ok {f : Str} {b : Blt} (h : bltOf f = some b) : bootBuiltins f = some b.val := by
  unfold bltOf at h
  repeat' split at h
  all_goals first
    | exact bltOf2_ok h
    | (rename_i e; cases h; rw [e]; decide +kernel)
    | cases h
def tyOf (x : Str) : Option String :=
  if x = "ValueError" then some "ValueError" else if x = "LookupError" then some "LookupError" else if x = "int" then some "int" else if x = "str" then some "str" else if x = "bool" then some "bool" else if x = "tuple" then some "tuple" else if x = "list" then some "list" else if x = "dict" then some "dict" else none
theorem tyOf_ok {f : Str} {b : String} (h : tyOf f = some b) : bootBuiltins f = some (.type b) := by
  unfold tyOf at h
  repeat' split at h
  all_goals first
    | (rename_i e; cases h; rw [e]; decide +kernel)
    | cases h
def cName (G : GT) (C : CC) (x : Str) : T :=
  if okNm x then
    (if visB C x then (match slotOf x C.N with
      | some i => .var i
      | none => .bad)
    else if glB C x then (match G.con x with
      | some _ => .con x
      | none => .bad)
    else .bad)
  else .bad
def cConst : Const → T
  | .int i => .int i
  | .bool b => .bl b
  | .none => .non
  | .str x => .str x
  | _ => .bad
def cTarget (C : CC) (x : Str) : Option Nat := if locB C x then slotOf x C.N else none
mutual
def cG (C : CC) : Expr → T
  | .Name x _ => (match cTarget C x with
    | some i => .gn i
    | none => .bad)
  | .Tuple es _ _ => if es.all noStar && !C.hot then .gt (cGs C es) else .bad
  | _ => .bad
def cGs (C : CC) : List Expr → T
  | [] => .nil
  | e :: es => if noStar e then .cons (cG C e) (cGs C es) else .bad
end
def mthOf (m : Str) (n : Nat) : Option Mth := if m = "append" ∧ n = 1 then some .append else if m = "pop" ∧ n = 1 then some .popAt else if m = "pop" ∧ n = 0 then some .pop else if m = "index" ∧ n = 1 then some .index else if m = "count" ∧ n = 1 then some .count
  else if m = "extend" ∧ n = 1 then some .extend else if m = "insert" ∧ n = 2 then some .insert else if m = "reverse" ∧ n = 0 then some .reverse else if m = "clear" ∧ n = 0 then some .clear else if m = "join" ∧ n = 1 then some .join else none
/-- list(range(..)): the range's arguments -/
def rngArgs (G : GT) (C : CC) : List Expr → Option (List Expr)
  | [.Call (.Name f _) as [] _] => if (f == ("range" : Str)) && glB C f && G.free.contains f && as.all noStar then some as else none
  | _ => none
def xcOf (G : GT) (C : CC) (x : Str) : Option XC :=
  if okNm x && glB C x then (match G.cl x with
    | some _ => some (.own x)
    | none => match G.exn x with
    | some _ => some (.own x)
    | none => if G.free.contains x then (match tyOf x with
      | some t => some (.blt t)
      | none => none) else none)
  else none
def kwNames : List Keyword → Option (List Str)
  | [] => some []
  | ⟨some k, _, _⟩ :: r => (match kwNames r with
    | some ks => some (k :: ks)
    | none => none)
  | ⟨none, _, _⟩ :: _ => none
/-- the block of a comprehension -/
def CC.blk (C : CC) (scope : Scope) : CC := ⟨C.N, relS scope C.sc, fun x => scope.names.lookup x == some .cell, C.ho⟩
/-- the name of the exception at hand -/
def cXn (C : CC) : Expr → Option Nat
  | .Name x _ => (match C.ho with
    | some (some i) => if okNm x && visB C x && (slotOf x C.N == some i) then some i else none
    | _ => none)
  | _ => none
/-- calls in an except suite -/
def cHot (G : GT) (C : CC) (f : Expr) (args : List Expr) (kws : List Keyword) : T := match f, args, kws with
  | .Name k _, [o, .Name x _], [] => if k = "isinstance" then (match cXn C o with
    | some i => if glB C k && G.free.contains k then (match xcOf G C x with
      | some c => .xis i c
      | none => .bad) else .bad
    | none => .bad) else .bad
  | .Name k _, [o, .Tuple [.Name x _, .Name y _] _ _], [] => if k = "isinstance" then (match cXn C o with
    | some i => if glB C k && G.free.contains k then (match xcOf G C x, xcOf G C y with
      | some c, some c2 => .xis2 i c c2
      | _, _ => .bad) else .bad
    | none => .bad) else .bad
  | _, _, _ => .bad
mutual
def cE (G : GT) : Nat → CC → Expr → T
  | 0, _, _ => .bad
  | n + 1, C, .Name x _ => cName G C x
  | n + 1, C, .Constant c _ _ => cConst c
  | n + 1, C, .BinOp a op b _ => .bin op (cE G n C a) (cE G n C b)
  | n + 1, C, .UnaryOp op a _ => (match op with
    | .USub => .neg (cE G n C a)
    | .Not => .not (cE G n C a)
    | _ => .bad)
  | n + 1, C, .BoolOp op vs _ => cB G n C op vs
  | n + 1, C, .Compare a ops bs _ => (match ops, bs with
    | [o], [b] => if behindInMarks o b then .bad else .cmp o (cE G n C a) (cE G n C b)
    | [o1, o2], [b, c] => if lastMarks [o1, o2] [b, c] then .bad else .chn o1 o2 (cE G n C a) (cE G n C b) (cE G n C c)
    | _, _ => .bad)
  | n + 1, C, .IfExp c a b _ => .ite (cT G n C c) (cE G n C a) (cE G n C b)
  | n + 1, C, .Tuple es _ _ => .tup (cA G n C es)
  | n + 1, C, .List es _ => .lst (cA G n C es)
  | n + 1, C, .Attribute o f _ => (match cXn C o with
    | some i => .xf i f
    | none => if noSup o then .att (cE G n C o) f else .bad)
  | n + 1, C, .Subscript a i _ => if noSlice i then .idx (cE G n C a) (cE G n C i) else (match i with
    | .Slice lo hi none _ => .slc (cE G n C a) (cP G n C lo) (cP G n C hi)
    | _ => .bad)
  | n + 1, C, .Call f args kws pos => if C.hot then cHot G C f args kws else if args.all noStar then (match f with
    | .Name k _ => cCall G n C k args kws
    | .Attribute o m apos => if noSup o && (apos.endLine == pos.line) && kws.isEmpty && decide (args.length < 20) then (if m = "get" then (if args.isEmpty then .bad else .get (cE G n C o) (cA G n C args)) else match mthOf m args.length with
      | some mt => .bm mt (cE G n C o) (cA G n C args)
      | none => .meth (cE G n C o) m (cA G n C args)) else .bad
    | _ => .bad) else .bad
  | n + 1, C, .ListComp elt gens scope _ => (match gens with
    | [⟨.Name x _, iter, ifs, a⟩] => if a = 0 then (match slotOf x C.N with
      | some i => if blkC C.N C.sc scope [(x, i)] && noSet iter && locB (C.blk scope) x && !C.hot then .lc (cE G n (C.blk scope) elt) i (cI G n C false iter) (cIf G n (C.blk scope) ifs) else .bad
      | none => .bad) else .bad
    | [⟨.Name x _, iter, ifs, a⟩, ⟨.Name y _, iter1, ifs1, a1⟩] => if a = 0 ∧ a1 = 0 then (match slotOf x C.N, slotOf y C.N with
      | some i, some j => if blkC C.N C.sc scope [(x, i), (y, j)] && noSet iter && noSet iter1 && locB (C.blk scope) x && locB (C.blk scope) y && !C.hot && decide (i ≠ j) then
          .lc2 (cE G n (C.blk scope) elt) i (cI G n C false iter) (cIf G n (C.blk scope) ifs) j (cI G n (C.blk scope) false iter1) (cIf G n (C.blk scope) ifs1) else .bad
      | _, _ => .bad) else .bad
    | _ => .bad)
  | n + 1, C, .JoinedStr vs _ => (match vs with
    | [] => .bad
    | [e] => cE G n C e
    | e1 :: e2 :: r => .fst (cA G n C (e1 :: e2 :: r)))
  | n + 1, C, .FormattedValue e c sp _ => (match sp with
    | none => if c = -1 then .fmt (cE G n C e) else .bad
    | some _ => .bad)
  | n + 1, C, .Dict ks vs _ => if ks.all (·.isSome) && decide (ks.length = vs.length) && decide (ks.length ≤ 15) then .dct (cPr G n C ks vs) else .bad
  | _, _, _ => .bad
def cPr (G : GT) : Nat → CC → List (Option Expr) → List Expr → T
  | 0, _, _, _ => .bad
  | n + 1, C, [], [] => .nil
  | n + 1, C, some k :: ks, v :: vs => .cons (cE G n C k) (.cons (cE G n C v) (cPr G n C ks vs))
  | _, _, _, _ => .bad
def cB (G : GT) : Nat → CC → BoolOp → List Expr → T
  | 0, _, _, _ => .bad
  | n + 1, C, op, [] => .bad
  | n + 1, C, op, [a] => cE G n C a
  | n + 1, C, op, a :: b :: r => (match op with
    | .And => .and (cE G n C a) (cB G n C .And (b :: r))
    | .Or => .or (cE G n C a) (cB G n C .Or (b :: r)))
def cT (G : GT) : Nat → CC → Expr → T
  | 0, _, _ => .bad
  | n + 1, C, e => if plainT e then .tru (cE G n C e) else (match e with
    | .UnaryOp .Not a _ => .not (cT G n C a)
    | .BoolOp op vs _ => cBT G n C op vs
    | .Compare a ops bs _ => (match ops, bs with
      | [o], [b] => if behindInMarks o b then .bad else .cmp o (cE G n C a) (cE G n C b)
      | [o1, o2], [b, c] => if lastMarks [o1, o2] [b, c] then .bad else .chn o1 o2 (cE G n C a) (cE G n C b) (cE G n C c)
      | _, _ => .bad)
    | _ => .bad)
def cBT (G : GT) : Nat → CC → BoolOp → List Expr → T
  | 0, _, _, _ => .bad
  | n + 1, C, op, [] => .bad
  | n + 1, C, op, [a] => cT G n C a
  | n + 1, C, op, a :: b :: r => (match op with
    | .And => .and (cT G n C a) (cBT G n C .And (b :: r))
    | .Or => .or (cT G n C a) (cBT G n C .Or (b :: r)))
def cA (G : GT) : Nat → CC → List Expr → T
  | 0, _, _ => .bad
  | n + 1, C, [] => .nil
  | n + 1, C, e :: es => if noStar e then .cons (cE G n C e) (cA G n C es) else (match e with
    | .Starred x _ => .scons (cE G n C x) (cA G n C es)
    | _ => .bad)
def cP (G : GT) : Nat → CC → Option Expr → T
  | 0, _, _ => .bad
  | n + 1, C, none => .nil
  | n + 1, C, some e => .opt (cE G n C e)
def cK (G : GT) : Nat → CC → List Keyword → T
  | 0, _, _ => .bad
  | n + 1, C, [] => .nil
  | n + 1, C, k :: ks => .cons (cE G n C k.value) (cK G n C ks)
def cIf (G : GT) : Nat → CC → List Expr → T
  | 0, _, _ => .bad
  | n + 1, C, [] => .tru (.bl true)
  | n + 1, C, [c] => cT G n C c
  | n + 1, C, _ => .bad
def cI (G : GT) : Nat → CC → Bool → Expr → T
  | 0, _, _, _ => .bad
  | n + 1, C, tp, e => (match e with
    | .Call (.Name f _) [a] [] _ => if f = "range" then (if glB C f && G.free.contains f && noStar a then .rng1 (cE G n C a) else .bad)
      else if f = "enumerate" then (if glB C f && G.free.contains f && noStar a && tp then .enum (cE G n C a) else .bad) else .iter (cE G n C e)
    | .Call (.Name f _) [a, b] [] _ => if f = "range" then (if glB C f && G.free.contains f && noStar a && noStar b then .rng2 (cE G n C a) (cE G n C b) else .bad)
      else if f = "zip" then (if glB C f && G.free.contains f && noStar a && noStar b && tp then .zip (cE G n C a) (cE G n C b) else .bad) else .iter (cE G n C e)
    | .Call (.Attribute o m apos) [] [] pos => if m = "values" then (if noSup o && (apos.endLine == pos.line) then .vals (cE G n C o) else .bad)
      else if m = "items" then (if noSup o && (apos.endLine == pos.line) && tp then .items (cE G n C o) else .bad) else .iter (cE G n C e)
    | e => .iter (cE G n C e))
def cCall (G : GT) : Nat → CC → Str → List Expr → List Keyword → T
  | 0, _, _, _, _ => .bad
  | n + 1, C, k, args, kws => if okNm k && glB C k then
      (if k = "isinstance" then (if G.free.contains k && kws.isEmpty then (match args with
        | [e, .Name x _] => if noStar e then (match xcOf G C x with
          | some c => .isi (cE G n C e) [c]
          | none => .bad) else .bad
        | _ => .bad) else .bad)
      else if G.gl k && kws.isEmpty then (match G.fn k with
        | some _ => .call k (cA G n C args)
        | none => .bad)
      else if G.gl k && !args.isEmpty then (match G.fn k with
        | some _ => (match kwNames kws with
          | some ks => .callk k (cA G n C args) ks (cK G n C kws)
          | none => .bad)
        | none => .bad)
      else (match G.cl k with
        | some ci => (match G.fn ci.init with
          | some _ => (match args with
            | [] => if kws.isEmpty then .mk k .nil [] .nil else .bad
            | _ => (match kwNames kws with
              | some ks => .mk k (cA G n C args) ks (cK G n C kws)
              | none => .bad))
          | none => .bad)
        | none => if G.free.contains k && kws.isEmpty && !args.isEmpty then (match (if k = "list" then rngArgs G C args else none) with
          | some [x] => .lrng (.rng1 (cE G n C x))
          | some [x, y] => .lrng (.rng2 (cE G n C x) (cE G n C y))
          | some _ => .bad
          | none => match bltOf k with
          | some b => .blt b (cA G n C args)
          | none => .bad) else .bad)) else .bad
end
def compOk (C : CC) (x : Str) (px : Pos) : Expr → Bool
  | .ListComp _ _ scope p => (match C.sc.names.lookup x with
    | some .local => (px.line == p.line) && !(scope.names.any fun (n, k) => n == x && (k == .local || k == .cell)) && (match C.sc.kind with
      | .function => true
      | _ => false)
    | _ => false)
  | _ => false
/-- a comprehension whose value is stored as any other -/
def compNo (C : CC) (x : Str) (px : Pos) : Expr → Bool
  | .ListComp _ _ scope p => (match C.sc.names.lookup x with
    | some .local => !(px.line == p.line) || (scope.names.any fun (n, k) => n == x && (k == .local || k == .cell))
    | _ => true)
  | _ => false
/-- the class that an except clause names -/
def exOf (G : GT) (C : CC) (x : Str) : Option XC := if okNm x && glB C x then (match G.exn x with
  | some _ => some (.own x)
  | none => none) else none
def CC.heat (C : CC) (i : Option Nat) : CC := { C with ho := some i }
/-- several except clauses -/
def mkHs (G : GT) (C : CC) (f : CC → List Stmt → T) : List ExceptHandler → Option T
  | [] => some .nil
  | .ExceptHandler (some (.Name x _)) nm (s0 :: s) _ :: r => (match exOf G C x with
    | some c => (match mkHs G C f r with
      | some t => (match nm with
        | none => some (.cons (.hnd c none (f (C.heat none) (s0 :: s))) t)
        | some y => (match slotOf y C.N with
          | some i => if locB0 C y then some (.cons (.hnd c (some i) (f (C.heat (some i)) (s0 :: s))) t) else none
          | none => none))
      | none => none)
    | none => none)
  | _ => none
mutual
def cS (G : GT) : Nat → CC → Stmt → T
  | 0, _, _ => .bad
  | n + 1, C, .Expr e _ => if noComp e then .expr (cE G n C e) else .bad
  | n + 1, C, .Return e _ => (match e with
    | some e => .ret (cE G n C e)
    | none => .retn)
  | n + 1, C, .If c a b _ => .ifs (cT G n C c) (cSs G n C a) (cSs G n C b)
  | n + 1, C, .While c b o _ => (match o with
    | [] => if C.hot then .bad else .whl (cT G n C c) (cSs G n C b)
    | _ => .bad)
  | n + 1, C, .For g it b o _ => (match o with
    | [] => if noSet it && !C.hot then .for_ (cG C g) (cI G n C (isTup g) it) (cSs G n C b) else .bad
    | _ => .bad)
  | n + 1, C, .Pass _ => .pass
  | n + 1, C, .Break _ => .brk
  | n + 1, C, .Continue _ => .cnt
  | n + 1, C, .Assign gs e _ => (match gs with
    | [.Name x px] => (match cTarget C x with
      | some i => if noComp e || compNo C x px e || compOk C x px e then .asg (.gn i) (cE G n C e) else .bad
      | none => .bad)
    | [.Attribute o f _] => .seta (cE G n C o) f (cE G n C e)
    | [.Subscript o i _] => if noSlice i then .sets (cE G n C o) (cE G n C i) (cE G n C e) else .bad
    | [.Tuple ts k p] => if noTup e then .asg (cG C (.Tuple ts k p)) (cE G n C e) else .bad
    | _ => .bad)
  | n + 1, C, .AugAssign g op e _ => (match g with
    | .Name x _ => (match cTarget C x with
      | some i => if op = .Add ∨ op = .Sub then .augn i op (cE G n C e) else .bad
      | none => .bad)
    | .Subscript o i _ => if op = .Add ∨ op = .Sub then (if noSlice i then .augs (cE G n C o) (cE G n C i) op (cE G n C e) else .bad) else .bad
    | _ => .bad)
  | n + 1, C, .Raise x y _ => (match x, y with
    | some (.Call (.Name c _) (e :: es) [] _), none => if okNm c && glB C c && (e :: es).all noStar && !C.hot then (match G.exn c with
      | some xi => (match xi.init with
        | none => (match es with
          | [] => .rse c (cE G n C e)
          | _ => .bad)
        | some _ => if xi.fl.isEmpty then .bad else .rsx c (cA G n C (e :: es)))
      | none => .bad) else .bad
    | _, _ => .bad)
  | n + 1, C, .Try b hs o f _ => (match hs, o, f with
    | [.ExceptHandler (some (.Name x _)) nm (s0 :: s) _], [], [] => if C.hot then .bad else (match exOf G C x with
      | some c => (match nm with
        | none => .tryo (cSs G n C b) [c] (cSs G n (C.heat none) (s0 :: s))
        | some y => (match slotOf y C.N with
          | some i => if locB0 C y then .trya (cSs G n C b) [c] i (cSs G n (C.heat (some i)) (s0 :: s)) else .bad
          | none => .bad))
      | none => .bad)
    | h1 :: h2 :: hs, [], [] => if C.hot then .bad else (match mkHs G C (fun C' sts => cSs G n C' sts) (h1 :: h2 :: hs) with
      | some t => .trym (cSs G n C b) t
      | none => .bad)
    | _, _, _ => .bad)
  | _, _, _ => .bad
def cSs (G : GT) : Nat → CC → List Stmt → T
  | 0, _, _ => .bad
  | n + 1, C, [] => .nil
  | n + 1, C, s :: r => .cons (cS G n C s) (cSs G n C r)
end
end Uw

namespace Uw
open PySem PySem.Spec PyProof.Rows L2
/-! ### side conditions -/
theorem star_ok {e : Expr} {es : List Expr} {env : Env} (h : noStar e = true) : starEach (e :: es) env = (false, eval e env) :: starEach es env := by
  cases e <;> first | rfl | cases h
theorem any_ok {env : Env} {pos : Pos} : ∀ {es : List Expr}, es.all noStar = true → (backTo pos (starEach es env)).any (·.1) = false
  | [], _ => rfl
  | e :: es, h => by
    rw [List.all_cons, Bool.and_eq_true] at h
    rw [star_ok h.1]
    show (false || (backTo pos (starEach es env)).any (·.1)) = false
    rw [any_ok h.2]; rfl
theorem all_ok {env : Env} {pos : Pos} : ∀ {es : List Expr}, es.all noStar = true → (backTo pos (starEach es env)).all (fun x => !x.1) = true
  | [], _ => rfl
  | e :: es, h => by
    rw [List.all_cons, Bool.and_eq_true] at h
    rw [star_ok h.1]
    show (true && (backTo pos (starEach es env)).all (fun x => !x.1)) = true
    rw [all_ok h.2]; rfl
theorem slice_ok {b : Expr} (h : noSlice b = true) : PlainIx b := fun o i => by
  cases b <;> first | rfl | cases h
theorem aug_ok {b : Expr} (h : noSlice b = true) : ∀ ov iv new, augStore b ov iv new = (do holding [new, ov, iv] (setItem ov iv new); release [new, ov, iv] []; pure .next) := fun o i n => by
  cases b <;> first | rfl | cases h
theorem sub_ok {o i : Expr} {spos : Pos} {env : Env} (h : noSlice i = true) : ∀ v, assign (.Subscript o i spos) env v = (do
      let ov ← holding [v] (eval o env)
      let iv ← holding [v, ov] (eval i env)
      standAt spos
      holding [v, ov, iv] (setItem ov iv v)
      release [v, ov, iv] []) := fun v => by
  cases i <;> first | rfl | cases h
theorem base_ok {o : Expr} {m : Str} {env : Env} {wh : Sem Value} (h : noSup o = true) : attributeBase o m env wh = wh := by
  unfold attributeBase
  split
  · rename_i x p1 p2
    have hx : (x != ("super" : Str)) = true := h
    simp only [hx, Bool.true_or, if_true]
  · rfl
theorem true_ok {e : Expr} {env : Env} (h : plainT e = true) : ∀ whole, isTrue e env whole = (do let v ← whole; standAt e.pos; holding [v] (truthy v)) := fun whole => by
  cases e <;> first | rfl | (cases h; done) | skip
  rename_i op a p
  cases op <;> first | rfl | cases h
theorem swap_ok {e : Expr} {t : Option Expr} {l : Nat} {env : Env} (h : noComp e = true) : swapsWith e t l env = pure false := by
  cases e <;> first | rfl | cases h
theorem swap_no {C : CC} {e : Expr} {x : Str} {px : Pos} {l : Nat} {env : Env} (hsc : env.scope = C.sc) (h : compNo C x px e = true) : swapsWith e (some (.Name x px)) l env = pure false := by
  cases e <;> first | (cases h; done) | skip
  rename_i elt gs scope p
  have hk : env.kindOf x = C.sc.names.lookup x := by unfold Env.kindOf; rw [hsc]
  have goal : ∀ b : Bool, b = false → (pure b : Sem Bool) = pure false := fun b e => by rw [e]
  refine goal _ ?_
  unfold compNo at h
  rw [hk]
  cases hl : C.sc.names.lookup x with
  | none => simp
  | some k =>
    rw [hl] at h
    cases k <;> first | (simp; done) | skip
    dsimp only at h
    rw [Bool.or_eq_true] at h
    rcases h with h | h
    · have e : (px.line == p.line) = false := by simpa using h
      show (env.blockKind == .function && some NameKind.local == some .local && (px.line == p.line) && _) = false
      rw [e]
      simp
    · show (_ && _ && _ && !(scope.names.any fun (n, k) => n == x && (k == .local || k == .cell))) = false
      rw [h]
      simp
theorem swap_att {e o : Expr} {f : Str} {p : Pos} {l : Nat} {env : Env} : swapsWith e (some (.Attribute o f p)) l env = pure false := by
  cases e <;> rfl
theorem swap_sub {e o i : Expr} {p : Pos} {l : Nat} {env : Env} : swapsWith e (some (.Subscript o i p)) l env = pure false := by
  cases e <;> rfl
theorem swap_tup {e : Expr} {ts : List Expr} {k : Nat} {p : Pos} {l : Nat} {env : Env} : swapsWith e (some (.Tuple ts k p)) l env = pure false := by
  cases e <;> rfl
theorem set_ok {e : Expr} {env : Env} (h : noSet e = true) : ∀ x, foldedSetIterable e env x = pure x := fun x => by
  cases e <;> first | rfl | cases h
theorem stores_sub {e o i : Expr} {p : Pos} {env : Env} : swappedStores [.Subscript o i p] e env = pure none := by
  cases e <;> rfl
theorem stores_tup {e : Expr} {ts : List Expr} {k : Nat} {p : Pos} {env : Env} (h : noTup e = true) : swappedStores [.Tuple ts k p] e env = pure none := by
  cases e <;> first | rfl | cases h
/-! ### around -/
structure Amb (X : Cx) (A : Ad) (Wx : WX) (G : GT) (L : Lv) (C : CC) : Prop where
  gf : GF X.w X.K X.mg A G
  fc : C.hot = false → ∃ n, Room n X.A ∧ FnsOk X.prog X.w X.K X.mg X.base A G n L.c
  fi : C.hot = false → ∃ n, Room (n + 1) X.A ∧ FnsOk X.prog X.w X.K X.mg X.base A G n L.i
  tk : Takes X Wx
  calm : C.hot = false → X.calm = true
  u65 : X.A.units + 65 < cLine
  nd : X.N.Nodup
  N : X.N = C.N
  sc : X.env.scope = C.sc
  fn : ∀ x, C.fn x = true → X.fn x = true
  xi : C.hot = false → Room 2 X.A ∧ XiOk X.prog X.w X.K X.mg X.base A G
  hx : ∀ z, L.x = some z → C.hot = true ∧ HasX X A z
  off : C.hot = true → (∀ k ws H Q E, ¬ L.c k ws H Q E) ∧ ∀ k ws H Q E, ¬ L.i k ws H Q E
section
variable {X : Cx} {A : Ad} {Wx : WX} {G : GT} {L : Lv} {C : CC}
theorem Amb.mk' {n : Nat} (gf : GF X.w X.K X.mg A G) (hr : Room n X.A) (fc : FnsOk X.prog X.w X.K X.mg X.base A G n L.c) (fi : ∃ n, Room (n + 1) X.A ∧ FnsOk X.prog X.w X.K X.mg X.base A G n L.i) (tk : Takes X Wx) (calm : X.calm = true) (nd : X.N.Nodup) (hN : X.N = C.N) (sc : X.env.scope = C.sc)
    (fn : ∀ x, C.fn x = true → X.fn x = true) (xi : Room 2 X.A ∧ XiOk X.prog X.w X.K X.mg X.base A G) (hx : L.x = none) (hh : C.hot = false) : Amb X A Wx G L C := ⟨gf, fun _ => ⟨n, hr, fc⟩, fun _ => fi, tk, fun _ => calm, by have := hr.un; omega, nd, hN, sc, fn, fun _ => xi, (fun z e => by rw [hx] at e; cases e), (fun z => by rw [hh] at z; cases z)⟩
theorem Amb.vis (a : Amb X A Wx G L C) {x : Str} (h : visB C x = true) : Vis X.env.scope x := by
  unfold visB at h
  unfold Vis
  rw [a.sc]
  split at h <;> first | (rename_i e; rw [e]; simp; done) | cases h
theorem Amb.gl (a : Amb X A Wx G L C) {x : Str} (h : glB C x = true) : Gl X x := by
  unfold glB at h
  unfold Gl Env.kindOf
  rw [a.sc]
  split at h <;> first | assumption | cases h
theorem Amb.loc (a : Amb X A Wx G L C) {x : Str} (h : locB C x = true) : Loc X.env.scope x ∧ (X.fn x = true ∨ X.env.scope.names.lookup x = some .local) := by
  unfold locB at h
  unfold L2.Loc
  rw [a.sc]
  split at h
  · rename_i e; exact ⟨.inl e, .inr e⟩
  · rename_i e; exact ⟨.inr e, .inl (a.fn x h)⟩
  · cases h
theorem Amb.slot (a : Amb X A Wx G L C) {x : Str} {i : Nat} (h : slotOf x C.N = some i) : X.N[i]? = some x := by
  rw [a.N]; exact slotOf_ok h
theorem okNm_ok {x : Str} (h : okNm x = true) : (x == ("__debug__" : Str)) = false ∧ (x == ("__classdict__" : Str)) = false ∧ x ≠ "__name__" := by
  unfold okNm at h
  simp only [Bool.and_eq_true, Bool.not_eq_true'] at h
  exact ⟨h.1.1, h.1.2, fun e => by rw [e] at h; simp at h⟩
theorem Amb.free (a : Amb X A Wx G L C) {x : Str} (h : G.free.contains x = true) : X.mg x = none := a.gf.fre x (by simpa using h)
theorem Amb.blk (a : Amb X A Wx G L C) (hh : C.hot = false) {scope : Scope} {s : Shared} {H : Hp} {D : Addr} {cl : List (Str × Addr)} {fp : List Addr} : Amb (X.blk s H scope (compEnvC scope cl D X.env) fp) A WF G L (C.blk scope) :=
  ⟨a.gf, a.fc, a.fi, takesF rfl, a.calm, a.u65, a.nd, a.N, by show relS scope X.env.scope = relS scope C.sc; rw [a.sc], fun x h => h, a.xi, (fun z e => by have := (a.hx z e).1; rw [hh] at this; cases this), a.off⟩
theorem snd_name (a : Amb X A Wx G L C) (x : Str) (pos : Pos) : PEw X A Wx (.Name x pos) (wE G L (cName G C x)) := by
  unfold cName
  split
  · rename_i h
    obtain ⟨h1, h2, h3⟩ := okNm_ok h
    split
    · rename_i hv
      split
      · rename_i i e
        exact pew_var (a.slot e) (a.vis hv) h1 h2
      · exact pew_bad
    · split
      · rename_i hg
        split
        · rename_i w e
          obtain ⟨u, v, e1, e2, e3⟩ := a.gf.con x w e
          have key : PEw X A Wx (.Name x pos) (fun _ H Q _ => Q w H) := pew_c (pe_glob (a.gl hg) e1 e2 h1) e3
          have e4 : wE G L (.con x) = fun _ H Q _ => Q w H := by
            funext σ H Q E
            show (match G.con x with
              | some w => Q w H
              | none => False) = _
            rw [e]
          rw [e4]; exact key
        · exact pew_bad
      · exact pew_bad
  · exact pew_bad
theorem snd_const (c : Const) (k : Nat) (pos : Pos) : PEw X A Wx (.Constant c k pos) (wE G L (cConst c)) := by
  cases c <;> first | exact pew_bad | skip
  · exact pew_c pe_non fun _ => .non
  · exact pew_c pe_bl fun _ => .bl
  · exact pew_c pe_int fun _ => .int
  · exact pew_c pe_str fun _ => .str
mutual
theorem wG_some : ∀ (g : T) {w : W} {σ : StW} {H : HpW} {Q : StW → HpW → Prop}, wG g w σ H Q → ∃ σ' H', Q σ' H' := fun g {w σ H Q} h => by
  cases g with
  | gn i => exact ⟨_, _, h⟩
  | gt ts => cases w <;> first | (exact False.elim h; done) | exact wGs_some ts h
  | _ => exact False.elim h
theorem wGs_some : ∀ (g : T) {ws : List W} {σ : StW} {H : HpW} {Q : StW → HpW → Prop}, wGs g ws σ H Q → ∃ σ' H', Q σ' H' := fun g {ws σ H Q} h => by
  cases g with
  | nil => exact ⟨_, _, h.2⟩
  | cons g r =>
    cases ws with
    | nil => exact False.elim h
    | cons w q =>
      obtain ⟨σ', H', h'⟩ := wG_some g h
      exact wGs_some r h'
  | _ => exact False.elim h
end
theorem gs_len {C : CC} : ∀ (es : List Expr) {ws : List W} {σ : StW} {H : HpW} {Q : StW → HpW → Prop}, wGs (cGs C es) ws σ H Q → ws.length = es.length
  | [], ws, σ, H, Q, h => by
    unfold cGs at h
    rw [h.1]; rfl
  | e :: es, ws, σ, H, Q, h => by
    unfold cGs at h
    split at h
    · cases ws with
      | nil => exact False.elim h
      | cons w q =>
        obtain ⟨σ', H', h'⟩ := wG_some (cG C e) h
        rw [List.length_cons, List.length_cons, gs_len es h']
    · exact False.elim h
theorem asE {e : Expr} {es : List Expr} {env : Env} (h : noStar e = true) : assignEach (e :: es) env = (false, assign e env) :: assignEach es env := by
  cases e <;> first | rfl | cases h
theorem as_len {env : Env} : ∀ {es : List Expr}, es.all noStar = true → (assignEach es env).length = es.length
  | [], _ => rfl
  | e :: es, h => by
    rw [List.all_cons, Bool.and_eq_true] at h
    rw [asE h.1, List.length_cons, List.length_cons, as_len h.2]
theorem as_idx {env : Env} : ∀ {es : List Expr}, es.all noStar = true → (assignEach es env).findIdx? (·.1) = none
  | [], _ => rfl
  | e :: es, h => by
    rw [List.all_cons, Bool.and_eq_true] at h
    rw [asE h.1, List.findIdx?_cons, as_idx h.2]; rfl
mutual
theorem snd_g (a : Amb X A Wx G L C) : ∀ e : Expr, PG X e (canG (om X A) (wG (cG C e)))
  | .Name x p => by
    unfold cG
    split
    · rename_i i e
      unfold cTarget at e
      split at e
      · rename_i hl
        obtain ⟨h1, h2⟩ := a.loc hl
        exact pgw_name a.nd (a.slot e) h1 h2
      · cases e
    · exact pgw_bad
  | .Tuple es k p => by
    unfold cG
    split
    · rename_i hs
      simp only [Bool.and_eq_true, Bool.not_eq_true'] at hs
      obtain ⟨hs, hh⟩ := hs
      exact pgw_tup (a.calm hh) (snd_gs a es) (as_len hs) (as_idx hs) fun ws σ H Q h => gs_len es h
    · exact pgw_bad
  | .BoolOp .. | .NamedExpr .. | .BinOp .. | .UnaryOp .. | .Lambda .. | .IfExp .. | .Dict .. | .Set .. | .ListComp .. | .SetComp .. | .DictComp .. | .GeneratorExp .. | .Await .. | .Yield .. | .YieldFrom .. | .Compare .. | .Call .. | .FormattedValue .. | .JoinedStr .. | .Constant .. | .Attribute .. | .Subscript .. | .Starred .. | .List .. | .Slice .. => pgw_bad
theorem snd_gs (a : Amb X A Wx G L C) : ∀ es : List Expr, PGs X es (canGs (om X A) (wGs (cGs C es)))
  | [] => pgsw_nil
  | e :: es => by
    unfold cGs
    split
    · rename_i h
      exact pgsw_cons (snd_g a e) (snd_gs a es) (by rw [asE h]; rfl)
    · exact pgsw_bad
end
end
end Uw

namespace Uw
open PySem PySem.Spec PyProof.Rows L2
structure Snd (n : Nat) (X : Cx) (A : Ad) (Wx : WX) (G : GT) (L : Lv) (C : CC) : Prop where
  e : ∀ e, PEw X A Wx e (wE G L (cE G n C e))
  b : ∀ op vs pos, PEw X A Wx (.BoolOp op vs pos) (wE G L (cB G n C op vs))
  t : ∀ e, PTw X A Wx e (wT G L (cT G n C e))
  bt : ∀ op vs pos, PWw X A Wx (.BoolOp op vs pos) (wT G L (cBT G n C op vs))
  a : ∀ es, PAw X A Wx es (wA G L (cA G n C es))
  j : ∀ es, PJw X A Wx es (wJ G L (cA G n C es))
  k : ∀ ks, PKw X A Wx ks (wA G L (cK G n C ks))
  f : ∀ fs, PTs X fs (canT (om X A) Wx (wT G L (cIf G n C fs)))
  i : ∀ tg e, PI X tg e (canI (om X A) Wx (wI G L (cI G n C (isTup tg) e)))
  pr : ∀ pos ks vs, ks.all (·.isSome) = true → ks.length = vs.length → PPw X A Wx pos ks vs (wPr G L (cPr G n C ks vs))
  p : ∀ e, POw X A Wx e (wP G L (cP G n C e))
  c : ∀ f p args kws pos, args.all noStar = true → C.hot = false → PEw X A Wx (.Call (.Name f p) args kws pos) (wE G L (cCall G n C f args kws))
section
variable {X : Cx} {A : Ad} {Wx : WX} {G : GT} {L : Lv} {C : CC} {n : Nat}
theorem Amb.ow_bin (a : Amb X A Wx G L C) {op : Operator} : OpW X A Wx (binaryOp op) (binG G L op) := by
  cases hh : C.hot with
  | false => obtain ⟨n, r, F⟩ := a.fc hh; exact opw_bin a.gf F r a.tk
  | true => exact opw_binO (a.off hh).1
theorem Amb.ow_cmp (a : Amb X A Wx G L C) {op : CmpOp} : OpW X A Wx (compareOp op) (cmpG G L op) := by
  cases hh : C.hot with
  | false =>
    obtain ⟨n, r, F⟩ := a.fc hh
    obtain ⟨n1, r1, F1⟩ := a.fi hh
    exact opw_cmp a.u65 a.gf F r F1 r1 a.tk
  | true => exact opw_cmpO a.u65 (a.off hh).1 (a.off hh).2
theorem pww_bad {e : Expr} : PWw X A Wx e (fun _ _ _ _ => False) := ⟨fun _ _ _ _ _ _ _ ⟨_, _, _, _, _, _, h, _⟩ => h.elim⟩
theorem pjw_bad {es : List Expr} : PJw X A Wx es (fun _ _ _ _ _ => False) := by
  have : ∀ es : List Expr, ∃ ts, PJ X es ts := fun es => by
    induction es with
    | nil => exact ⟨[], .nil⟩
    | cons e es ih =>
      obtain ⟨ts, h⟩ := ih
      exact ⟨_, .cons (t := fun _ _ _ => False) ⟨fun _ _ _ _ _ _ z => False.elim z⟩ h⟩
  obtain ⟨ts, h⟩ := this es
  exact ⟨ts, h, fun acc σ H Q ⟨_, _, _, _, _, _, h, _⟩ => h.elim⟩
theorem ptsw_bad {es : List Expr} : PTs X es (canT (om X A) Wx (fun _ _ _ _ => False)) := ⟨fun _ _ _ _ _ _ ⟨_, _, _, _, _, _, h, _⟩ => h.elim⟩
theorem snd0 : Snd 0 X A Wx G L C :=
  ⟨fun e => pew_bad, fun _ _ _ => pew_bad, fun _ => ptw_bad, fun _ _ _ => pww_bad, fun _ => paw_bad, fun _ => pjw_bad, fun _ => pkw_bad, fun _ => ptsw_bad, fun _ _ => piw_bad, fun _ _ _ h1 h2 => ppw_bad h1 h2, fun _ => pow_bad, fun _ _ _ _ _ _ _ => pew_bad⟩
theorem pe_b1 {op : BoolOp} {a : Expr} {pos : Pos} {t : TE} (h : PE X a t) : PE X (.BoolOp op [a] pos) t := by
  refine ⟨fun pins s σ H Q I q => ?_⟩
  have e : eval (.BoolOp op [a] pos) X.env = eval a X.env := by
    first | rfl | (simp only [eval]; rfl)
  rw [e]
  exact h.run pins s σ H Q I q
theorem snd_b (s : Snd n X A Wx G L C) (op : BoolOp) (vs : List Expr) (pos : Pos) : PEw X A Wx (.BoolOp op vs pos) (wE G L (cB G (n + 1) C op vs)) := by
  cases vs with
  | nil => exact pew_bad
  | cons a r =>
    cases r with
    | nil => exact pe_b1 (s.e a)
    | cons b r =>
      cases op
      · exact pew_and (s.e a) (s.b .And (b :: r) pos)
      · exact pew_or (s.e a) (s.b .Or (b :: r) pos)
theorem snd_bt (s : Snd n X A Wx G L C) (op : BoolOp) (vs : List Expr) (pos : Pos) : PWw X A Wx (.BoolOp op vs pos) (wT G L (cBT G (n + 1) C op vs)) := by
  cases vs with
  | nil => exact pww_bad
  | cons a r =>
    cases r with
    | nil =>
      cases op
      · exact pw_and1 (s.t a)
      · exact pw_or1 (s.t a)
    | cons b r =>
      cases op
      · exact pww_and (s.t a) (s.bt .And (b :: r) pos)
      · exact pww_or (s.t a) (s.bt .Or (b :: r) pos)
theorem snd_t (a : Amb X A Wx G L C) (s : Snd n X A Wx G L C) (e : Expr) : PTw X A Wx e (wT G L (cT G (n + 1) C e)) := by
  unfold cT
  split
  · rename_i h
    exact ptw_tru (s.e e) (true_ok h)
  · split
    · exact ptw_not (s.t _)
    · exact PW.pt (s.bt _ _ _)
    · split
      · split
        · exact ptw_bad
        · rename_i h
          exact ptw_cmpG a.ow_cmp (s.e _) (s.e _) (by simpa using h)
      · split
        · exact ptw_bad
        · rename_i h
          exact ptw_chn a.u65 (s.e _) (s.e _) (s.e _) (by simpa using h)
      · exact ptw_bad
    · exact ptw_bad
theorem snd_a (s : Snd n X A Wx G L C) (es : List Expr) : PAw X A Wx es (wA G L (cA G (n + 1) C es)) := by
  cases es with
  | nil => exact paw_nil
  | cons e es =>
    unfold cA
    split
    · rename_i h
      exact paw_cons (s.e e) (s.a es) (star_ok h)
    · split
      · exact paw_star (s.e _) (s.a es)
      · exact paw_bad
theorem snd_p (s : Snd n X A Wx G L C) (e : Option Expr) : POw X A Wx e (wP G L (cP G (n + 1) C e)) := by
  cases e with
  | none => exact pow_none
  | some e => exact pow_some (s.e e)
theorem snd_j (s : Snd n X A Wx G L C) (es : List Expr) : PJw X A Wx es (wJ G L (cA G (n + 1) C es)) := by
  cases es with
  | nil => exact pjw_nil
  | cons e es =>
    unfold cA
    split
    · exact pjw_cons (s.e e) (s.j es)
    · split
      · exact pjw_bad
      · exact pjw_bad
theorem snd_k (s : Snd n X A Wx G L C) (ks : List Keyword) : PKw X A Wx ks (wA G L (cK G (n + 1) C ks)) := by
  cases ks with
  | nil => exact pkw_nil
  | cons k ks =>
    obtain ⟨nm, v, p⟩ := k
    exact pkw_cons (s.e v) (s.k ks)
theorem snd_f (s : Snd n X A Wx G L C) (fs : List Expr) : PTs X fs (canT (om X A) Wx (wT G L (cIf G (n + 1) C fs))) := by
  cases fs with
  | nil => exact ptsw_nil
  | cons c r =>
    cases r with
    | nil => exact pts_one (s.t c)
    | cons _ _ => exact ptsw_bad
theorem tup_ok {tg : Expr} (h : isTup tg = true) : ∃ es k p, tg = .Tuple es k p := by
  cases tg <;> first | (cases h; done) | exact ⟨_, _, _, rfl⟩
theorem snd_i (a : Amb X A Wx G L C) (s : Snd n X A Wx G L C) (tg e : Expr) : PI X tg e (canI (om X A) Wx (wI G L (cI G (n + 1) C (isTup tg) e))) := by
  unfold cI
  split
  · split
    · rename_i f p x pos hf
      subst hf
      split
      · rename_i h
        simp only [Bool.and_eq_true] at h
        exact piw_rng1 (a.gl h.1.1) (a.free h.1.2) (s.e _) (star_ok h.2)
      · exact piw_bad
    · split
      · rename_i f p x pos _ hf
        subst hf
        split
        · rename_i h
          simp only [Bool.and_eq_true] at h
          obtain ⟨es, k, tp, rfl⟩ := tup_ok h.2
          exact piw_enum (a.gl h.1.1.1) (a.free h.1.1.2) (s.e _) (star_ok h.1.2)
        · exact piw_bad
      · exact piw_iter (s.e _)
  · split
    · rename_i f p x y pos hf
      subst hf
      split
      · rename_i h
        simp only [Bool.and_eq_true] at h
        exact piw_rng2 (a.gl h.1.1.1) (a.free h.1.1.2) (s.e _) (s.e _) (by rw [star_ok h.1.2, star_ok h.2]; rfl) (star_ok h.2)
      · exact piw_bad
    · split
      · rename_i f p x y pos _ hf
        subst hf
        split
        · rename_i h
          simp only [Bool.and_eq_true] at h
          obtain ⟨es, k, tp, rfl⟩ := tup_ok h.2
          exact piw_zip (a.gl h.1.1.1.1) (a.free h.1.1.1.2) (s.e _) (s.e _) (star_ok h.1.1.2) (star_ok h.1.2)
        · exact piw_bad
      · exact piw_iter (s.e _)
  · split
    · rename_i o m apos pos hm
      subst hm
      split
      · rename_i h
        simp only [Bool.and_eq_true] at h
        exact piw_vals (s.e _) (base_ok h.1) h.2
      · exact piw_bad
    · split
      · rename_i o m apos pos _ hm
        subst hm
        split
        · rename_i h
          simp only [Bool.and_eq_true] at h
          obtain ⟨es, k, tp, rfl⟩ := tup_ok h.2
          exact piw_items (s.e _) (base_ok h.1.1) h.1.2
        · exact piw_bad
      · exact piw_iter (s.e _)
  · exact piw_iter (s.e _)
theorem snd_pr (s : Snd n X A Wx G L C) (pos : Pos) (ks : List (Option Expr)) (vs : List Expr) (h1 : ks.all (·.isSome) = true) (h2 : ks.length = vs.length) : PPw X A Wx pos ks vs (wPr G L (cPr G (n + 1) C ks vs)) := by
  cases ks with
  | nil =>
    cases vs with
    | nil => exact ppw_nil
    | cons _ _ => cases h2
  | cons k ks =>
    cases vs with
    | nil => cases h2
    | cons v vs =>
      rw [List.all_cons, Bool.and_eq_true] at h1
      obtain ⟨k, rfl⟩ := Option.isSome_iff_exists.mp h1.1
      exact ppw_cons (s.e k) (s.e v) (s.pr pos ks vs h1.2 (by simpa using h2))
theorem kw_all {pos : Pos} {env : Env} : ∀ {kws : List Keyword} {ks : List Str}, kwNames kws = some ks → (backToKw pos (keywordEach kws env)).all (·.1.isSome) = true ∧ (backToKw pos (keywordEach kws env)).filterMap (·.1) = ks ∧ (backToKw pos (keywordEach kws env)).any (·.1.isNone) = false
  | [], ks, h => by cases h; exact ⟨rfl, rfl, rfl⟩
  | ⟨none, v, p⟩ :: r, ks, h => by cases h
  | ⟨some k, v, p⟩ :: r, ks, h => by
    unfold kwNames at h
    split at h
    · rename_i ks' e
      cases h
      obtain ⟨h1, h2, h3⟩ := kw_all (pos := pos) (env := env) e
      refine ⟨?_, ?_, ?_⟩
      · show (true && (backToKw pos (keywordEach r env)).all (·.1.isSome)) = true
        rw [h1]; rfl
      · have : backToKw pos (keywordEach (⟨some k, v, p⟩ :: r) env) = (some k, do let v ← eval v env; standAt pos; pure v) :: backToKw pos (keywordEach r env) := rfl
        rw [this]; simp only [List.filterMap_cons, h2]
      · show (false || (backToKw pos (keywordEach r env)).any (·.1.isNone)) = false
        rw [h3]; rfl
    · cases h
theorem xc_ok (a : Amb X A Wx G L C) {x : Str} {c : XC} (h : xcOf G C x = some c) : XcV X A c x := by
  unfold xcOf at h
  split at h
  · rename_i hx
    simp only [Bool.and_eq_true] at hx
    obtain ⟨h1, h2, h3⟩ := okNm_ok hx.1
    split at h
    · rename_i ci e
      cases h
      exact ⟨a.gl hx.2, h1, a.gf.cgl x ci e⟩
    · split at h
      · rename_i xi e
        cases h
        exact ⟨a.gl hx.2, h1, (a.gf.exc x xi e).gl⟩
      · split at h
        · rename_i hf
          split at h
          · rename_i t e
            cases h
            exact ⟨a.gl hx.2, h1, a.free hf, tyOf_ok e, h3⟩
          · cases h
        · cases h
  · cases h
theorem rngArgs_ok {args as : List Expr} (h : rngArgs G C args = some as) : ∃ p1 p2, args = [.Call (.Name "range" p1) as [] p2] ∧ glB C "range" = true ∧ G.free.contains ("range" : Str) = true ∧ as.all noStar = true := by
  unfold rngArgs at h
  split at h
  · rename_i f p1 as' p2
    split at h
    · rename_i hc
      simp only [Bool.and_eq_true, beq_iff_eq] at hc
      obtain ⟨⟨⟨rfl, h2⟩, h3⟩, h4⟩ := hc
      cases h
      exact ⟨p1, p2, rfl, h2, h3, h4⟩
    · cases h
  · cases h
theorem snd_c (a : Amb X A Wx G L C) (s : Snd n X A Wx G L C) (f : Str) (p : Pos) (args : List Expr) (kws : List Keyword) (pos : Pos) (hst : args.all noStar = true) (hh : C.hot = false) : PEw X A Wx (.Call (.Name f p) args kws pos) (wE G L (cCall G (n + 1) C f args kws)) := by
  unfold cCall
  split
  · rename_i hx
    simp only [Bool.and_eq_true] at hx
    obtain ⟨h1, h2, h3⟩ := okNm_ok hx.1
    have hgl := a.gl hx.2
    obtain ⟨nc, hrc, Fc⟩ := a.fc hh
    obtain ⟨ni, hri, Fi⟩ := a.fi hh
    split
    · rename_i hi
      subst hi
      split
      · rename_i h
        simp only [Bool.and_eq_true, List.isEmpty_iff] at h
        obtain ⟨hf, rfl⟩ := h
        split
        · split
          · rename_i e x p2 he
            split
            · rename_i c hc
              exact pew_isi a.gf (s.e e) (xc_ok a hc) hgl (a.free hf) (star_ok he)
            · exact pew_bad
          · exact pew_bad
        · exact pew_bad
      · exact pew_bad
    · split
      · rename_i h
        simp only [Bool.and_eq_true, List.isEmpty_iff] at h
        obtain ⟨hg, rfl⟩ := h
        split
        · rename_i fi hf
          cases args with
          | nil =>
            cases n with
            | zero => exact pew_bad
            | succ m => exact pew_call0 hf a.gf Fc hrc a.tk hgl hg h1
          | cons e es =>
            rw [List.all_cons, Bool.and_eq_true] at hst
            exact pew_call hf a.gf Fc hrc a.tk hgl hg (s.a (e :: es)) h1 (star_ok hst.1) (any_ok hst.2)
        · exact pew_bad
      · split
        · rename_i h
          simp only [Bool.and_eq_true, Bool.not_eq_true'] at h
          split
          · rename_i fi hf
            split
            · rename_i ks hk
              cases args with
              | nil => cases h.2
              | cons e es =>
                obtain ⟨k1, k2, k3⟩ := kw_all (pos := pos) (env := X.env) hk
                have hst' := hst
                rw [List.all_cons, Bool.and_eq_true] at hst'
                exact pew_callk hf a.gf Fc hrc a.tk hgl h.1 (s.a (e :: es)) (s.k kws) k1 k2 h1 (star_ok hst'.1) (by rw [any_ok hst, k3]; rfl)
            · exact pew_bad
          · exact pew_bad
        split
        · rename_i ci hc
          split
          · rename_i fi hf
            split
            · split
              · rename_i h
                rw [List.isEmpty_iff] at h
                subst h
                exact pew_mk0 a.gf Fi hc hf hri a.tk hgl h1
              · exact pew_bad
            · rename_i hne
              split
              · rename_i ks hk
                cases args with
                | nil => exact absurd rfl hne
                | cons e es =>
                  obtain ⟨k1, k2, k3⟩ := kw_all (pos := pos) (env := X.env) hk
                  have hst' := hst
                  rw [List.all_cons, Bool.and_eq_true] at hst'
                  exact pew_mk a.gf Fi hc hf hri a.tk hgl (s.a (e :: es)) (s.k kws) k1 k2 h1 (star_ok hst'.1) (by rw [any_ok hst, k3]; rfl)
              · exact pew_bad
          · exact pew_bad
        · split
          · rename_i h
            simp only [Bool.and_eq_true, List.isEmpty_iff] at h
            obtain ⟨⟨hf, rfl⟩, hne⟩ := h
            split
            · rename_i x hr
              split at hr
              · rename_i hk
                subst hk
                obtain ⟨p1, p2, rfl, g1, g2, g3⟩ := rngArgs_ok hr
                simp only [List.all_cons, Bool.and_eq_true] at g3
                exact pew_lrg1 (a.calm hh) hgl (a.free hf) (a.gl g1) (a.free g2) (s.e _) (star_ok g3.1)
              · cases hr
            · rename_i x y hr
              split at hr
              · rename_i hk
                subst hk
                obtain ⟨p1, p2, rfl, g1, g2, g3⟩ := rngArgs_ok hr
                simp only [List.all_cons, Bool.and_eq_true] at g3
                exact pew_lrg2 (a.calm hh) hgl (a.free hf) (a.gl g1) (a.free g2) (s.e _) (s.e _) (by rw [star_ok g3.1, star_ok g3.2.1]; rfl) (star_ok g3.2.1)
              · cases hr
            · exact pew_bad
            split
            · rename_i b hb
              cases args with
              | nil => simp at hne
              | cons e es =>
                rw [List.all_cons, Bool.and_eq_true] at hst
                exact pew_blt (a.calm hh) a.gf.dig hgl (a.free hf) (bltOf_ok hb) (s.a (e :: es)) h3 h1 (star_ok hst.1) (any_ok hst.2)
            · exact pew_bad
          · exact pew_bad
  · exact pew_bad
theorem mthOf_ok {m : Str} {k : Nat} {mt : Mth} (h : mthOf m k = some mt) : m = mt.name ∧ k ≤ 2 := by
  unfold mthOf at h
  repeat (first | (cases h; done) | (split at h; · rename_i e; cases h; exact ⟨e.1, by omega⟩))
theorem snd_get (a : Amb X A Wx G L C) (s : Snd n X A Wx G L C) {o : Expr} {apos pos : Pos} {args : List Expr} (hst : args.all noStar = true) (h1 : noSup o = true) (h2 : (apos.endLine == pos.line) = true) (h3 : args.length < 20) :
    PEw X A Wx (.Call (.Attribute o "get" apos) args [] pos) (wE G L (if args.isEmpty then .bad else .get (cE G n C o) (cA G n C args))) := by
  cases args with
  | nil => exact pew_bad
  | cons e es =>
    have hst' := hst
    rw [List.all_cons, Bool.and_eq_true] at hst'
    refine pew_get a.u65 (s.e o) (s.a (e :: es)) (base_ok h1) ?_ h2 (star_ok hst'.1) (any_ok hst'.2)
    rw [all_ok hst]
    have : decide ((e :: es).length + ([] : List Keyword).length + (if ([] : List Keyword).isEmpty then 0 else 1) < 30) = true := by
      exact decide_eq_true (by
        show (e :: es).length + 0 + 0 < 30
        omega)
    rw [this]; rfl
theorem snd_meth (a : Amb X A Wx G L C) (s : Snd n X A Wx G L C) {o : Expr} {m : Str} {apos pos : Pos} {args : List Expr} (hst : args.all noStar = true) (h1 : noSup o = true) (h2 : (apos.endLine == pos.line) = true) (h3 : args.length < 20) (hh : C.hot = false) :
    PEw X A Wx (.Call (.Attribute o m apos) args [] pos) (wE G L (match mthOf m args.length with
      | some mt => .bm mt (cE G n C o) (cA G n C args)
      | none => .meth (cE G n C o) m (cA G n C args))) := by
  obtain ⟨nc, hrc, Fc⟩ := a.fc hh
  split
  · rename_i mt hm
    obtain ⟨rfl, hl⟩ := mthOf_ok hm
    cases args with
    | nil =>
      cases n with
      | zero => exact pew_bad
      | succ n =>
        have h := pew_bm0 (m := mt) (pos := pos) a.u65 (s.e o) (base_ok h1) h2
        exact h
    | cons e es =>
      have hst' := hst
      rw [List.all_cons, Bool.and_eq_true] at hst'
      refine pew_bm a.u65 (s.e o) (s.a (e :: es)) (base_ok h1) ?_ h2 (star_ok hst'.1) (any_ok hst'.2)
      rw [all_ok hst]
      have : decide ((e :: es).length + ([] : List Keyword).length + (if ([] : List Keyword).isEmpty then 0 else 1) < 30) = true := by
        exact decide_eq_true (by
          show (e :: es).length + 0 + 0 < 30
          omega)
      rw [this]; rfl
  · refine pew_meth a.gf Fc hrc a.tk (s.e o) (s.a args) (fun he σ H Q E h => ?_) (fun e r he => ?_) (base_ok h1) ?_ h2
    · subst he
      cases n with
      | zero => exact False.elim h
      | succ m => exact h
    · subst he
      rw [List.all_cons, Bool.and_eq_true] at hst
      exact ⟨star_ok hst.1, any_ok hst.2⟩
    · unfold methodCallForm
      rw [all_ok hst]
      have : decide (args.length + 0 + (if ([] : List (Option Str × Sem Value)).isEmpty then 0 else 1) < 30) = true := decide_eq_true (by
        show args.length + 0 + 0 < 30
        omega)
      rw [this]; rfl
theorem snd_lc (a : Amb X A Wx G L C) (S : ∀ {X : Cx} {Wx : WX} {C : CC}, Amb X A Wx G L C → Snd n X A Wx G L C) {elt iter : Expr} {ifs : List Expr} {x : Str} {px pos : Pos} {scope : Scope} {i : Nat} (hs : slotOf x C.N = some i) (hb : blkC C.N C.sc scope [(x, i)] = true) (hn : noSet iter = true) (hl : locB (C.blk scope) x = true) (hh : C.hot = false) :
    PEw X A Wx (.ListComp elt [⟨.Name x px, iter, ifs, 0⟩] scope pos) (wE G L (.lc (cE G n (C.blk scope) elt) i (cI G n C false iter) (cIf G n (C.blk scope) ifs))) := by
  refine pew_lc (a.calm hh) a.nd ((S a).i _ _) (by rw [a.N, a.sc]; exact blkOk_by hb) (fun s H D cl fp => ?_) (fun s H D cl fp => (S (a.blk hh (s := s) (H := H) (D := D) (cl := cl) (fp := fp))).f ifs) (fun s H D cl fp => (S (a.blk hh (s := s) (H := H) (D := D) (cl := cl) (fp := fp))).e elt) (set_ok hn)
  have ab := a.blk hh (scope := scope) (s := s) (H := H) (D := D) (cl := cl) (fp := fp)
  obtain ⟨h1, h2⟩ := ab.loc hl
  exact pg_name ab.nd (a.slot hs) h1 h2
theorem set_ok' {e : Expr} (h : noSet e = true) : ∀ env x, foldedSetIterable e env x = pure x := fun env x => set_ok h x
theorem snd_lc2 (a : Amb X A Wx G L C) (S : ∀ {X : Cx} {Wx : WX} {C : CC}, Amb X A Wx G L C → Snd n X A Wx G L C) {elt iter iter1 : Expr} {ifs ifs1 : List Expr} {x y : Str} {px py pos : Pos} {scope : Scope} {i j : Nat} (hs : slotOf x C.N = some i) (hs1 : slotOf y C.N = some j) (hb : blkC C.N C.sc scope [(x, i), (y, j)] = true) (hn : noSet iter = true) (hn1 : noSet iter1 = true)
    (hl : locB (C.blk scope) x = true) (hl1 : locB (C.blk scope) y = true) (hh : C.hot = false) (hij : i ≠ j) :
    PEw X A Wx (.ListComp elt [⟨.Name x px, iter, ifs, 0⟩, ⟨.Name y py, iter1, ifs1, 0⟩] scope pos) (wE G L (.lc2 (cE G n (C.blk scope) elt) i (cI G n C false iter) (cIf G n (C.blk scope) ifs) j (cI G n (C.blk scope) false iter1) (cIf G n (C.blk scope) ifs1))) := by
  refine pew_lc2 hij (a.calm hh) a.nd ((S a).i _ _) (by rw [a.N, a.sc]; exact blkOk_by hb) (fun s H D cl fp => ?_) (fun s H D cl fp => (S (a.blk hh (s := s) (H := H) (D := D) (cl := cl) (fp := fp))).f ifs) (fun s H D cl fp => (S (a.blk hh (s := s) (H := H) (D := D) (cl := cl) (fp := fp))).i _ iter1) (fun s H D cl fp => ?_)
    (fun s H D cl fp => (S (a.blk hh (s := s) (H := H) (D := D) (cl := cl) (fp := fp))).f ifs1) (fun s H D cl fp => (S (a.blk hh (s := s) (H := H) (D := D) (cl := cl) (fp := fp))).e elt) (set_ok hn) (set_ok' hn1)
  · have ab := a.blk hh (scope := scope) (s := s) (H := H) (D := D) (cl := cl) (fp := fp)
    obtain ⟨h1, h2⟩ := ab.loc hl
    exact pg_name ab.nd (a.slot hs) h1 h2
  · have ab := a.blk hh (scope := scope) (s := s) (H := H) (D := D) (cl := cl) (fp := fp)
    obtain ⟨h1, h2⟩ := ab.loc hl1
    exact pg_name ab.nd (a.slot hs1) h1 h2
theorem cXn_ok {o : Expr} {i : Nat} (h : cXn C o = some i) : ∃ x p, o = .Name x p ∧ okNm x = true ∧ visB C x = true ∧ slotOf x C.N = some i := by
  unfold cXn at h
  split at h
  · rename_i x p
    split at h
    · rename_i j e
      split at h
      · rename_i hc
        simp only [Bool.and_eq_true, beq_iff_eq] at hc
        cases h
        exact ⟨x, p, rfl, hc.1.1, hc.1.2, hc.2⟩
      · cases h
    · cases h
  · cases h
theorem snd_hot (a : Amb X A Wx G L C) {f : Expr} {args : List Expr} {kws : List Keyword} {pos : Pos} : PEw X A Wx (.Call f args kws pos) (wE G L (cHot G C f args kws)) := by
  unfold cHot
  split
  · rename_i k p1 o x p2
    split
    · rename_i hk
      subst hk
      split
      · rename_i i hi
        obtain ⟨n, np, rfl, h1, h2, h3⟩ := cXn_ok hi
        obtain ⟨k1, k2, k3⟩ := okNm_ok h1
        split
        · rename_i hg
          simp only [Bool.and_eq_true] at hg
          split
          · rename_i c hc
            exact pew_xis (fun z e => (a.hx z e).2) a.gf (a.slot h3) (a.vis h2) k1 k2 (xc_ok a hc) (a.gl hg.1) (a.free hg.2)
          · exact pew_bad
        · exact pew_bad
      · exact pew_bad
    · exact pew_bad
  · rename_i k p1 o x p2 y p3 kk p4
    split
    · rename_i hk
      subst hk
      split
      · rename_i i hi
        obtain ⟨n, np, rfl, h1, h2, h3⟩ := cXn_ok hi
        obtain ⟨k1, k2, k3⟩ := okNm_ok h1
        split
        · rename_i hg
          simp only [Bool.and_eq_true] at hg
          split
          · rename_i c c2 hc hc2
            exact pew_xis2 (fun z e => (a.hx z e).2) a.gf (a.slot h3) (a.vis h2) k1 k2 (xc_ok a hc) (xc_ok a hc2) (a.gl hg.1) (a.free hg.2)
          · exact pew_bad
        · exact pew_bad
      · exact pew_bad
    · exact pew_bad
  · exact pew_bad
theorem snd_e (a : Amb X A Wx G L C) (S : ∀ {X : Cx} {Wx : WX} {C : CC}, Amb X A Wx G L C → Snd n X A Wx G L C) (e : Expr) : PEw X A Wx e (wE G L (cE G (n + 1) C e)) := by
  have s := S a
  cases e with
  | Name x p => exact snd_name a x p
  | Constant c k p => exact snd_const c k p
  | BinOp x op y p => exact pew_binG a.ow_bin (s.e x) (s.e y)
  | UnaryOp op x p =>
    cases op <;> first | exact pew_neg (s.e x) | exact pew_not (s.e x) | exact pew_bad
  | BoolOp op vs p => exact s.b op vs p
  | Compare x ops bs p =>
    unfold cE
    split
    · split
      · exact pew_bad
      · rename_i h
        exact pew_cmpG a.ow_cmp (s.e _) (s.e _) (by simpa using h)
    · split
      · exact pew_bad
      · rename_i h
        exact pew_chn a.u65 (s.e _) (s.e _) (s.e _) (by simpa using h)
    · exact pew_bad
  | IfExp c x y p => exact pew_ite (s.t c) (s.e x) (s.e y)
  | Tuple es k p => exact pew_tup (s.a es)
  | List es p => exact pew_lst (s.a es)
  | Attribute o f p =>
    unfold cE
    split
    · rename_i i h
      obtain ⟨x, np, rfl, h1, h2, h3⟩ := cXn_ok h
      obtain ⟨k1, k2, k3⟩ := okNm_ok h1
      exact pew_xf (fun z e => (a.hx z e).2) a.gf (a.slot h3) (a.vis h2) k1 k2
    · split
      · rename_i h
        exact pew_att a.gf (s.e o) (base_ok h)
      · exact pew_bad
  | Subscript x i p =>
    unfold cE
    split
    · rename_i h
      exact pew_idx (by have := a.u65; omega) (s.e x) (s.e i) (slice_ok h)
    · split
      · exact pew_slc (s.e x) (s.p _) (s.p _)
      · exact pew_bad
  | Call f args kws pos =>
    unfold cE
    split
    · exact snd_hot a
    split
    · rename_i hh hst
      have hh : C.hot = false := by simpa using hh
      cases f with
      | Name k p => exact s.c k p args kws pos hst hh
      | Attribute o m apos =>
        dsimp only
        split
        · rename_i h
          simp only [Bool.and_eq_true, List.isEmpty_iff, decide_eq_true_eq] at h
          obtain ⟨⟨⟨h1, h2⟩, rfl⟩, h3⟩ := h
          split
          · rename_i hm
            subst hm
            exact snd_get a s hst h1 h2 h3
          · exact snd_meth a s hst h1 h2 h3 hh
        · exact pew_bad
      | _ => exact pew_bad
    · exact pew_bad
  | ListComp elt gens scope pos =>
    unfold cE
    split
    · split
      · rename_i x p iter ifs as h0
        subst h0
        split
        · rename_i i hs
          split
          · rename_i h
            simp only [Bool.and_eq_true, Bool.not_eq_true'] at h
            exact snd_lc a S hs h.1.1.1 h.1.1.2 h.1.2 h.2
          · exact pew_bad
        · exact pew_bad
      · exact pew_bad
    · split
      · rename_i x p iter ifs as y p' iter1 ifs1 as1 h0
        obtain ⟨rfl, rfl⟩ := h0
        split
        · rename_i i j hs hs1
          split
          · rename_i h
            simp only [Bool.and_eq_true, Bool.not_eq_true', decide_eq_true_eq] at h
            obtain ⟨⟨⟨⟨⟨⟨h1, h2⟩, h3⟩, h4⟩, h5⟩, h6⟩, h7⟩ := h
            exact snd_lc2 a S hs hs1 h1 h2 h3 h4 h5 h6 h7
          · exact pew_bad
        · exact pew_bad
      · exact pew_bad
    · exact pew_bad
  | JoinedStr vs p =>
    cases vs with
    | nil => exact pew_bad
    | cons v r =>
      cases r with
      | nil => exact pew_join (s.e v)
      | cons v2 r => exact pew_fst (s.j _)
  | FormattedValue e c sp p =>
    unfold cE
    split
    · split
      · rename_i h
        subst h
        exact pew_fmt (s.e e)
      · exact pew_bad
    · exact pew_bad
  | Dict ks vs p =>
    unfold cE
    split
    · rename_i h
      simp only [Bool.and_eq_true, decide_eq_true_eq] at h
      obtain ⟨⟨h1, h2⟩, h3⟩ := h
      cases ks with
      | nil =>
        cases vs with
        | nil =>
          cases n with
          | zero => exact peW pe_dnewK fun σ H Q ⟨_, HW, _, _, _, rh, h, _⟩ p hp => (show False from h p (rh.free hp)).elim
          | succ m => exact pew_dct0
        | cons _ _ => cases h2
      | cons k ks => exact pew_dct (s.pr p (k :: ks) vs h1 h2) h1 h2 (by simp) h3
    · exact pew_bad
  | _ => exact pew_bad
theorem snd_all (A : Ad) (G : GT) (L : Lv) : ∀ (n : Nat) {X : Cx} {Wx : WX} {C : CC}, Amb X A Wx G L C → Snd n X A Wx G L C
  | 0, _, _, _, _ => snd0
  | n + 1, X, Wx, C, a => by
    have S := @snd_all A G L n
    exact ⟨snd_e a S, snd_b (S a), snd_t a (S a), snd_bt (S a), snd_a (S a), snd_j (S a), snd_k (S a), snd_f (S a), snd_i a (S a), snd_pr (S a), snd_p (S a), snd_c a (S a)⟩
end
end Uw

namespace Uw
open PySem PySem.Spec PyProof.Rows L2
section
variable {X : Cx} {A : Ad} {Wx : WX} {G : GT} {L : Lv} {C : CC} {n : Nat}
structure SndS (n : Nat) (X : Cx) (A : Ad) (Wx : WX) (G : GT) (L : Lv) (C : CC) : Prop where
  s : ∀ st, PSw X A Wx st (wS G L (cS G n C st))
  ss : ∀ sts, PSsw X A Wx sts (wS G L (cSs G n C sts))
theorem target_ok (a : Amb X A Wx G L C) {x : Str} {i : Nat} (e : cTarget C x = some i) : X.N[i]? = some x ∧ Loc X.env.scope x ∧ (X.fn x = true ∨ X.env.scope.names.lookup x = some .local) := by
  unfold cTarget at e
  split at e
  · rename_i hl
    obtain ⟨h1, h2⟩ := a.loc hl
    exact ⟨a.slot e, h1, h2⟩
  · cases e
theorem compOk_lc {x : Str} {px p : Pos} {elt : Expr} {gens : List Comprehension} {scope : Scope} (h : compOk C x px (.ListComp elt gens scope p) = true) : C.sc.names.lookup x = some .local ∧ (px.line == p.line) = true ∧ (scope.names.any fun (n, k) => n == x && (k == .local || k == .cell)) = false ∧ C.sc.kind = .function := by
  simp only [compOk] at h
  split at h
  · rename_i hl
    simp only [Bool.and_eq_true, Bool.not_eq_true'] at h
    obtain ⟨⟨h4, h5⟩, h6⟩ := h
    refine ⟨hl, h4, h5, ?_⟩
    split at h6
    · assumption
    · cases h6
  · cases h
theorem swapS_sub {e o i : Expr} {p : Pos} {l : Nat} {env : Env} : swapsWithSole [.Subscript o i p] e l env = pure false := by
  cases e <;> rfl
theorem swapS_tup {e : Expr} {ts : List Expr} {k : Nat} {p : Pos} {l : Nat} {env : Env} : swapsWithSole [.Tuple ts k p] e l env = pure false := by
  cases e <;> rfl
theorem snd_setn (a : Amb X A Wx G L C) {x : Str} {px pos : Pos} {i : Nat} {e : Expr} (ht : cTarget C x = some i) (h : (noComp e || compNo C x px e || compOk C x px e) = true) : PSw X A Wx (.Assign [.Name x px] e pos) (wS G L (.asg (.gn i) (cE G n C e))) := by
  obtain ⟨h1, h2, h3⟩ := target_ok a ht
  rw [Bool.or_eq_true, Bool.or_eq_true] at h
  rcases h with (h | h) | h
  · exact psw_asgn a.nd h1 h2 h3 ((snd_all A G L n a).e e) (swap_ok h)
  · exact psw_asgn a.nd h1 h2 h3 ((snd_all A G L n a).e e) (swap_no a.sc h)
  · cases e with
    | ListComp elt gens scope p =>
      obtain ⟨hl, h4, h5, h6⟩ := compOk_lc h
      have hk : X.env.scope.kind = .function := by rw [a.sc]; exact h6
      have hl' : X.env.scope.names.lookup x = some .local := by rw [a.sc]; exact hl
      cases n with
      | zero => exact psw_bad
      | succ n =>
        unfold cE
        split
        · split
          · rename_i y py iter ifs as h0
            subst h0
            split
            · rename_i j hs
              split
              · rename_i hb
                simp only [Bool.and_eq_true, Bool.not_eq_true'] at hb
                obtain ⟨hb, hh⟩ := hb
                refine psw_setLc (a.calm hh) a.nd h1 hl' (sw_true hk hl' h4 h5) ((snd_all A G L n a).i _ _) (by rw [a.N, a.sc]; exact blkOk_by hb.1.1) (fun s H D cl fp => ?_)
                  (fun s H D cl fp => (snd_all A G L n (a.blk hh (s := s) (H := H) (D := D) (cl := cl) (fp := fp))).f ifs) (fun s H D cl fp => (snd_all A G L n (a.blk hh (s := s) (H := H) (D := D) (cl := cl) (fp := fp))).e elt) (set_ok hb.1.2)
                have ab := a.blk hh (scope := scope) (s := s) (H := H) (D := D) (cl := cl) (fp := fp)
                obtain ⟨g1, g2⟩ := ab.loc hb.2
                exact pg_name ab.nd (a.slot hs) g1 g2
              · exact psw_bad
            · exact psw_bad
          · exact psw_bad
        · split
          · rename_i y py iter ifs as y1 py1 iter1 ifs1 as1 h0
            obtain ⟨rfl, rfl⟩ := h0
            split
            · rename_i j j1 hs hs1
              split
              · rename_i hb
                simp only [Bool.and_eq_true, Bool.not_eq_true', decide_eq_true_eq] at hb
                obtain ⟨⟨⟨⟨⟨⟨b1, b2⟩, b3⟩, b4⟩, b5⟩, hh⟩, b7⟩ := hb
                refine psw_setLc2 b7 (a.calm hh) a.nd h1 hl' (sw_true hk hl' h4 h5) ((snd_all A G L n a).i _ _) (by rw [a.N, a.sc]; exact blkOk_by b1) (fun s H D cl fp => ?_)
                  (fun s H D cl fp => (snd_all A G L n (a.blk hh (s := s) (H := H) (D := D) (cl := cl) (fp := fp))).f ifs) (fun s H D cl fp => (snd_all A G L n (a.blk hh (s := s) (H := H) (D := D) (cl := cl) (fp := fp))).i _ iter1) (fun s H D cl fp => ?_)
                  (fun s H D cl fp => (snd_all A G L n (a.blk hh (s := s) (H := H) (D := D) (cl := cl) (fp := fp))).f ifs1) (fun s H D cl fp => (snd_all A G L n (a.blk hh (s := s) (H := H) (D := D) (cl := cl) (fp := fp))).e elt) (set_ok b2) (set_ok' b3)
                · have ab := a.blk hh (scope := scope) (s := s) (H := H) (D := D) (cl := cl) (fp := fp)
                  obtain ⟨g1, g2⟩ := ab.loc b4
                  exact pg_name ab.nd (a.slot hs) g1 g2
                · have ab := a.blk hh (scope := scope) (s := s) (H := H) (D := D) (cl := cl) (fp := fp)
                  obtain ⟨g1, g2⟩ := ab.loc b5
                  exact pg_name ab.nd (a.slot hs1) g1 g2
              · exact psw_bad
            · exact psw_bad
          · exact psw_bad
        · exact psw_bad
    | _ => cases h
theorem h_cons' {G : GT} {L : Lv} {D : EndsW} {σ : StW} {H : HpW} {a r : T} {c : XC} {oi : Option Nat} {x : Ex} : wH G L (.cons (.hnd c oi a) r) D x σ H = (match G.exm x.cls c with
    | some true => (match oi with
      | none => wS G (Lv.off none) a { D with ex := fun _ _ _ => False } σ H
      | some i => (match x.fs with
        | [] => ∀ p, H p = none → wS G (Lv.off (some (p, x.cls, none))) a (asEnds i D) (σ.set i (some (.ref p))) H
        | _ => ∀ p dd, H p = none → H dd = none → p ≠ dd → wS G (Lv.off (some (p, x.cls, some dd))) a (asEnds i D) (σ.set i (some (.ref p))) (updW H dd (.xd x.fs))))
    | some false => wH G L r D x σ H
    | none => False) := rfl
theorem snd_hs (a : Amb X A Wx G L C) (hh : C.hot = false) (hs : X.stack = X.env :: X.outer) (hf : X.env.frame = some X.env.locals) {n : Nat} (S : ∀ (L : Lv) {X : Cx} {Wx : WX} {C : CC}, Amb X A Wx G L C → (C.hot = false → PassesOwn (model X.prog X.w) X.A X.env X.xe) → X.stack = X.env :: X.outer → X.env.frame = some X.env.locals → SndS n X A Wx G L C) :
    ∀ {hds : List ExceptHandler} {t : T}, mkHs G C (fun C' sts => cSs G n C' sts) hds = some t → ∃ l, HdX X A hds l ∧ ∀ D x σ H, wH G L t D x σ H = clsW G l D x σ H
  | [], t, e => by cases e; exact ⟨[], .nil, fun D x σ H => rfl⟩
  | hd :: r, t, e => by
    unfold mkHs at e
    split at e
    · rename_i heq; cases heq
    · rename_i x np nm s0 ss pp r' heq
      cases heq
      split at e
      · rename_i c ec
        have ec0 := ec
        unfold exOf at ec
        split at ec
        · rename_i hx
          simp only [Bool.and_eq_true] at hx
          split at ec
          · rename_i xi ex
            cases ec
            have nam : Names X x ((om X A).xv (.own x)) := ⟨a.gl hx.2, (okNm_ok hx.1).1, .inl (a.gf.exc x xi ex).gl⟩
            split at e
            · rename_i t' et
              obtain ⟨l, hl, hw⟩ := snd_hs a hh hs hf S et
              split at e
              · cases e
                refine ⟨(.own x, none, fun z => wS G (Lv.off z) (cSs G n (C.heat none) (s0 :: ss))) :: l, .cons nam (.inl ⟨rfl, rfl⟩) (fun ad oe xc d pn hz hv => ?_) hl, fun D y σ H => ?_⟩
                · exact (S (Lv.off none) (X := X.suite ad ((ad, oe) :: pn)) (Wx := WF) (C := C.heat none) ⟨a.gf, (fun h => nomatch h), (fun h => nomatch h), takesF rfl, (fun h => nomatch h), a.u65, a.nd, a.N, a.sc, a.fn, (fun h => nomatch h), (fun z e => by cases e), fun _ => ⟨fun _ _ _ _ _ h => h, fun _ _ _ _ _ h => h⟩⟩ (fun h => nomatch h) hs hf).ss _
                · rw [h_cons', clsW]

                  dsimp only
                  cases em : G.exm y.cls (.own x) with
                  | none => rfl
                  | some b =>
                    cases b with
                    | true => rfl
                    | false => exact hw _ _ _ _
              · rename_i yn
                split at e
                · rename_i i hi
                  split at e
                  · rename_i hlo
                    cases e
                    have hln : X.env.kindOf yn = some .local := by
                      unfold locB0 at hlo
                      unfold Env.kindOf
                      rw [a.sc]
                      split at hlo
                      · assumption
                      · cases hlo
                    refine ⟨(.own x, some i, fun z => wS G (Lv.off z) (cSs G n (C.heat (some i)) (s0 :: ss))) :: l, .cons nam (.inr ⟨yn, i, rfl, rfl, a.slot hi, hln⟩) (fun ad oe xc d pn hz hv => ?_) hl, fun D y σ H => ?_⟩
                    · exact (S (Lv.off (some (ad, xc, d))) (X := X.suite ad ((ad, oe) :: pn)) (Wx := WF) (C := C.heat (some i)) ⟨a.gf, (fun h => nomatch h), (fun h => nomatch h), takesF rfl, (fun h => nomatch h), a.u65, a.nd, a.N, a.sc, a.fn, (fun h => nomatch h), (fun z e => by cases e; exact ⟨rfl, oe, List.mem_cons_self, hz, hv⟩), fun _ => ⟨fun _ _ _ _ _ h => h, fun _ _ _ _ _ h => h⟩⟩ (fun h => nomatch h) hs hf).ss _
                    · rw [h_cons', clsW]

                      dsimp only
                      cases em : G.exm y.cls (.own x) with
                      | none => rfl
                      | some b =>
                        cases b with
                        | true => rfl
                        | false => exact hw _ _ _ _
                  · cases e
                · cases e
            · cases e
          · cases ec
        · cases ec
      · cases e
    · cases e
theorem snd_s (a : Amb X A Wx G L C) (hp : C.hot = false → PassesOwn (model X.prog X.w) X.A X.env X.xe) (hs : X.stack = X.env :: X.outer) (hf : X.env.frame = some X.env.locals)
    (S : ∀ (L : Lv) {X : Cx} {Wx : WX} {C : CC}, Amb X A Wx G L C → (C.hot = false → PassesOwn (model X.prog X.w) X.A X.env X.xe) → X.stack = X.env :: X.outer → X.env.frame = some X.env.locals → SndS n X A Wx G L C) (st : Stmt) : PSw X A Wx st (wS G L (cS G (n + 1) C st)) := by
  have se := snd_all A G L n a
  have s := S L a hp hs hf
  have u1 : X.A.units + 1 < cLine := by have := a.u65; omega
  cases st with
  | Expr e p =>
    unfold cS
    split
    · rename_i h
      exact psw_expr (se.e e) (swap_ok h)
    · exact psw_bad
  | Return e p =>
    cases e with
    | none => exact psw_retn
    | some e => exact psw_ret (se.e e)
  | If c x y p => exact psw_if (se.t c) (s.ss x) (s.ss y)
  | While c b o p =>
    cases o with
    | nil =>
      unfold cS
      dsimp only
      split
      · exact psw_bad
      · rename_i hh
        exact psw_whl (hp (by simpa using hh)) (se.t c) (s.ss b)
    | cons _ _ => exact psw_bad
  | For g it b o p =>
    cases o with
    | nil =>
      unfold cS
      dsimp only
      split
      · rename_i h
        simp only [Bool.and_eq_true, Bool.not_eq_true'] at h
        exact psw_for (hp h.2) (a.calm h.2) (se.i g it) (snd_g a g) (s.ss b) (set_ok h.1)
      · exact psw_bad
    | cons _ _ => exact psw_bad
  | Pass p => exact psw_pass
  | Break p => exact psw_brk
  | Continue p => exact psw_cnt
  | Assign gs e p =>
    unfold cS
    split
    · split
      · rename_i i ht
        split
        · rename_i h
          exact snd_setn a ht h
        · exact psw_bad
      · exact psw_bad
    · exact psw_seta a.gf (se.e _) (se.e _) swap_att
    · split
      · rename_i h
        exact psw_sets u1 (se.e _) (se.e _) (se.e _) swapS_sub stores_sub rfl (sub_ok h)
      · exact psw_bad
    · split
      · rename_i h
        exact psw_asg (se.e _) (snd_g a _) swapS_tup (stores_tup h) rfl
      · exact psw_bad
    · exact psw_bad
  | AugAssign g op e p =>
    unfold cS
    split
    · split
      · rename_i i ht
        obtain ⟨h1, h2, h3⟩ := target_ok a ht
        split
        · rename_i h
          exact psw_augn h a.nd h1 h2 (se.e _) h3
        · exact psw_bad
      · exact psw_bad
    · split
      · rename_i h
        split
        · rename_i hs
          exact psw_augs h u1 (se.e _) (se.e _) (se.e _) (aug_ok hs)
        · exact psw_bad
      · exact psw_bad
    · exact psw_bad
  | Raise x y p =>
    unfold cS
    split
    · split
      · rename_i h
        simp only [Bool.and_eq_true, Bool.not_eq_true'] at h
        obtain ⟨⟨⟨h1, h2⟩, h3⟩, hh⟩ := h
        split
        · rename_i xi ec
          split
          · rename_i hi
            split
            · rw [List.all_cons, Bool.and_eq_true] at h3
              exact psw_rse a.gf (a.calm hh) a.tk ec hi (a.gl h2) (se.e _) (star_ok h3.1) (okNm_ok h1).1
            · exact psw_bad
          · rename_i k hi
            split
            · exact psw_bad
            · rename_i hfl
              obtain ⟨rm, xo⟩ := a.xi hh
              have h3' := h3
              rw [List.all_cons, Bool.and_eq_true] at h3'
              exact psw_rsx xo (a.calm hh) a.tk rm ec hi (fun e => by rw [e] at hfl; exact hfl rfl) (a.gl h2) (se.a _) (okNm_ok h1).1 (star_ok h3'.1) (any_ok h3'.2)
        · exact psw_bad
      · exact psw_bad
    · exact psw_bad
  | Try b hd o f p =>
    unfold cS
    split
    · split
      · exact psw_bad
      · rename_i x np nm s0 ss pp hh
        have hh : C.hot = false := by simpa using hh
        split
        · rename_i c ec
          unfold exOf at ec
          split at ec
          · rename_i hx
            simp only [Bool.and_eq_true] at hx
            split at ec
            · rename_i xi ex
              cases ec
              have nx : ∀ z, L.x = some z → False := fun z e => by have := (a.hx z e).1; rw [hh] at this; cases this
              have bod : ∀ (W : WX) (pn : List (Addr × Obj)) (xe : Value → Shared → Prop), Takes (X.tr pn xe) W → PassesOwn (model X.prog X.w) X.A X.env xe → PSs (X.tr pn xe) b (canS (om X A) W (wS G L (cSs G n C b))) := fun W pn xe tk' hp' =>
                (S L (X := X.tr pn xe) (C := C) ⟨a.gf, a.fc, a.fi, tk', a.calm, a.u65, a.nd, a.N, a.sc, a.fn, a.xi, (fun z e => (nx z e).elim), a.off⟩ (fun _ => hp') hs hf).ss b
              have nam : Names X x ((om X A).xv (.own x)) := ⟨a.gl hx.2, (okNm_ok hx.1).1, .inl (a.gf.exc x xi ex).gl⟩
              split
              · refine psw_tryo a.gf hs hf nam a.tk bod fun ad pn => ?_
                exact (S (Lv.off none) (X := X.suite ad pn) (Wx := WF) (C := C.heat none) ⟨a.gf, (fun h => nomatch h), (fun h => nomatch h), takesF rfl, (fun h => nomatch h), a.u65, a.nd, a.N, a.sc, a.fn, (fun h => nomatch h), (fun z e => by cases e), fun _ => ⟨fun _ _ _ _ _ h => h, fun _ _ _ _ _ h => h⟩⟩ (fun h => nomatch h) hs hf).ss _
              · rename_i y
                split
                · rename_i i hi
                  split
                  · rename_i hl
                    have hln : X.env.kindOf y = some .local := by
                      unfold locB0 at hl
                      unfold Env.kindOf
                      rw [a.sc]
                      split at hl
                      · assumption
                      · cases hl
                    refine psw_trya (ts := fun z => wS G (Lv.off (some z)) (cSs G n (C.heat (some i)) (s0 :: ss))) a.gf hs hf a.nd (a.slot hi) hln nam a.tk bod fun ad oe xc d pn hz hv => ?_
                    exact (S (Lv.off (some (ad, xc, d))) (X := X.suite ad ((ad, oe) :: pn)) (Wx := WF) (C := C.heat (some i)) ⟨a.gf, (fun h => nomatch h), (fun h => nomatch h), takesF rfl, (fun h => nomatch h), a.u65, a.nd, a.N, a.sc, a.fn, (fun h => nomatch h), (fun z e => by cases e; exact ⟨rfl, oe, List.mem_cons_self, hz, hv⟩), fun _ => ⟨fun _ _ _ _ _ h => h, fun _ _ _ _ _ h => h⟩⟩ (fun h => nomatch h) hs hf).ss _
                  · exact psw_bad
                · exact psw_bad
            · cases ec
          · cases ec
        · exact psw_bad
    · rename_i h1 h2 hds
      split
      · exact psw_bad
      · rename_i hh
        have hh : C.hot = false := by simpa using hh
        split
        · rename_i t et
          have nx : ∀ z, L.x = some z → False := fun z e => by have := (a.hx z e).1; rw [hh] at this; cases this
          have bod : ∀ (W : WX) (pn : List (Addr × Obj)) (xe : Value → Shared → Prop), Takes (X.tr pn xe) W → PassesOwn (model X.prog X.w) X.A X.env xe → PSs (X.tr pn xe) b (canS (om X A) W (wS G L (cSs G n C b))) := fun W pn xe tk' hp' =>
            (S L (X := X.tr pn xe) (C := C) ⟨a.gf, a.fc, a.fi, tk', a.calm, a.u65, a.nd, a.N, a.sc, a.fn, a.xi, (fun z e => (nx z e).elim), a.off⟩ (fun _ => hp') hs hf).ss b
          obtain ⟨l, hl, hw⟩ := snd_hs a hh hs hf S et
          have e : wS G L (.trym (cSs G n C b) t) = fun D σ H => wS G L (cSs G n C b) { D with ex := clsW G l D } σ H := by
            funext D σ H
            show wS G L (cSs G n C b) { D with ex := fun x σ' H' => wH G L t D x σ' H' } σ H = _
            have : (fun x σ' H' => wH G L t D x σ' H') = clsW G l D := by
              funext x σ' H'
              exact hw _ _ _ _
            rw [this]
          rw [e]
          exact psw_trym (tb := wS G L (cSs G n C b)) a.gf hs hf a.nd a.tk bod hl
        · exact psw_bad
    · exact psw_bad
  | _ => exact psw_bad
theorem snd_ss (s : SndS n X A Wx G L C) (sts : List Stmt) : PSsw X A Wx sts (wS G L (cSs G (n + 1) C sts)) := by
  cases sts with
  | nil => exact pssw_nil
  | cons st r =>
    have h := pssw_cons (s.s st) (s.ss r)
    exact h
theorem sndS_all (A : Ad) (G : GT) : ∀ (n : Nat) (L : Lv) {X : Cx} {Wx : WX} {C : CC}, Amb X A Wx G L C → (C.hot = false → PassesOwn (model X.prog X.w) X.A X.env X.xe) → X.stack = X.env :: X.outer → X.env.frame = some X.env.locals → SndS n X A Wx G L C
  | 0, L, X, Wx, C, _, _, _, _ => ⟨fun _ => psw_bad, fun _ => pssw_bad⟩
  | n + 1, L, X, Wx, C, a, hp, hs, hf => ⟨snd_s a hp hs hf (fun L => sndS_all A G n L), snd_ss (sndS_all A G n L a hp hs hf)⟩
end
end Uw

namespace Uw
open PySem PySem.Spec PyProof.Rows L2
/-- a def of the written part, as its T tells it -/
structure DefOk (K : PySem.W.Frag) (A : Ad) (G : GT) (k : Str) (fi : FnI) : Prop where
  ex : ∃ (name qual : Str) (params : Arguments) (body : List Stmt) (scope : Scope) (dV kV doc pm cdv ct oc : Value) (an od : Option Addr) (osl : Array (Option Value)) (N : List Str) (fuel : Nat),
    A.fd k = PySem.W.fnOf name qual params body scope dV kV doc pm an cdv ct ∧ K.lookup (A.fa k) = some ⟨oc, od, .func (PySem.W.fnOf name qual params body scope dV kV doc pm an cdv ct), osl⟩ ∧ PySem.W.codeIn K cdv qual = true ∧
    FnScope N fi.ps scope ∧ fi.nv = N.length ∧ fi.body = cSs G fuel ⟨N, scope, fun _ => true, none⟩ body
theorem relS_start {Ω : Gd} {H : Hp} : ∀ {ws : List W} {vs : List V} (m : Nat), RelWs Ω H ws vs → RelS Ω H (ws.map some ++ List.replicate m none) (vs.map some ++ List.replicate m none)
  | [], vs, m, h => by
    rw [h.inv_nil]
    show RelS Ω H (List.replicate m none) (List.replicate m none)
    induction m with
    | zero => exact rfl
    | succ m ih => rw [List.replicate_succ, List.replicate_succ]; exact ⟨none, _, rfl, ih⟩
  | w :: ws, vs, m, h => by
    obtain ⟨v, r, rfl, a, b⟩ := h.inv_cons
    exact ⟨v, _, rfl, a, relS_start m b⟩
/-- what a def's ends are -/
def fnEnds (Q : QW) (E : EW) : EndsW := { nx := fun _ H' => ∃ H'', Sub H'' H' ∧ Q .non H'', rt := fun w H' => ∃ H'', Sub H'' H' ∧ Q w H'', bk := fun _ _ => False, ct := fun _ _ => False, ex := fun x _ H' => ∃ H'', Sub H'' H' ∧ E x H'' }
theorem fnEnds_ok {Ω : Gd} {H : Hp} {q : QW} {ee : EW} {Q : VK} {E : XK} (nn : Nrm Ω H q Q) (xr : Xrm Ω H ee E) : EndsR Ω (fun cls d _ H => E cls d H) H (fnEnds q ee) { nx := fun _ H' => Q .non H', rt := Q } where
  nx := fun σW HW σ H' t rs rh ⟨H'', s, h⟩ => nn _ _ _ _ t .non (rh.sub s) h
  rt := fun w HW' v H' t rw1 rh ⟨H'', s, h⟩ => nn _ _ _ _ t rw1 (rh.sub s) h
  bk := fun σW HW σ H' t rs rh h => h.elim
  ct := fun σW HW σ H' t rs rh h => h.elim
  ex := fun x σW HW c d σ H' t rx rs rh ⟨H'', s, h⟩ => xr _ _ _ _ _ t (rx.sub s) (rh.sub s) h
section
variable {P : Program} {w : World} {K : PySem.W.Frag} {mg : Str → Option Value} {base : Heap} {A : Ad} {G : GT}
theorem FnsOk.none {n : Nat} {c : CallW} (h : ∀ k ws H Q E, ¬ c k ws H Q E) : FnsOk P w K mg base A G n c := fun k fi hf =>
  ⟨fun vs H Q E ⟨ws, HW, q, e, _, _, z, _⟩ => (h _ _ _ _ _ z).elim, fun A' outer s H args us vs Q E hr he hb hv ⟨ws, HW, q, e, _, _, z, _⟩ => (h _ _ _ _ _ z).elim⟩
theorem fn_ok1 {n : Nat} {L : Lv} {k : Str} {fi : FnI} (hf : G.fn k = some fi) (gf : GF w K mg A G) (d : DefOk K A G k fi) (hc : FnsOk P w K mg base A G (n + 2) L.c) (hi : FnsOk P w K mg base A G (n + 1) L.i) (hx : XiOk P w K mg base A G) (hL : L.x = none) :
    FnOk P w K mg base (L2.CX P w) (n + 3) (A.fa k) (A.fd k) fi.ps (spW ⟨K, A.fa, A.ca, w.params⟩ (fnW G L k)) := by
  obtain ⟨name, qual, params, body, scope, dV, kV, doc, pm, cdv, ct, oc, an, od, osl, N, fuel, hfd, lk, hcd, S, hnv, hbody⟩ := d.ex
  rw [hfd]
  have un : ∀ {ws HW q e}, fnW G L k ws HW q e → ws.length = fi.ps.length ∧ wS G L fi.body (fnEnds q e) (ws.map some ++ List.replicate (fi.nv - ws.length) none) HW := fun {ws HW q e} z => by
    unfold fnW at z
    rw [hf] at z
    exact z
  refine fn_of lk hcd S (fun vs H Q E ⟨ws, HW, q, e, r, _, z, _⟩ => by rw [← r.length]; exact (un z).1) fun A' outer s H vs Q E hr ⟨ws, HW, q, e, r, rh, z, nn, xr⟩ => ?_
  obtain ⟨hl, hw⟩ := un z
  have amb : Amb (cxOf (L2.CX P w) P w K mg base N qual scope (A.fa k) cdv A' outer s H E) A (fun cls d _ H => E cls d H) G L ⟨N, scope, fun _ => true, none⟩ :=
    Amb.mk' gf hr hc ⟨n + 1, hr, hi⟩ (takes_of rfl rfl rfl rfl) rfl S.nd rfl rfl (fun _ h => h) ⟨hr.mono (by omega), hx⟩ hL rfl
  have hp : PassesOwn (model P w) (cxOf (L2.CX P w) P w K mg base N qual scope (A.fa k) cdv A' outer s H E).A (cxOf (L2.CX P w) P w K mg base N qual scope (A.fa k) cdv A' outer s H E).env (cxOf (L2.CX P w) P w K mg base N qual scope (A.fa k) cdv A' outer s H E).xe := passes_of rfl
  refine ⟨_, (sndS_all A G fuel L amb (fun _ => hp) rfl rfl).ss body, ?_⟩
  rw [← hbody]
  refine ⟨_, HW, _, ?_, rh, hw, fnEnds_ok nn xr⟩
  unfold L2.start
  rw [hnv, r.length]
  exact relS_start _ r
end
end Uw

namespace Uw
open PySem PySem.Spec PyProof.Rows L2
/-! ### super().__init__(..) as a statement of a def's body -/
def supArgs : Stmt → Option (List Expr)
  | .Expr (.Call (.Attribute (.Call (.Name s _) [] [] _) m apos) args [] pos) _ => if s = "super" ∧ m = "__init__" ∧ (apos.endLine == pos.line) = true ∧ args.all noStar = true ∧ args.length < 20 then some args else none
  | _ => none
def cSup (G : GT) : Nat → CC → Str → List Stmt → T
  | 0, _, _, _ => .bad
  | n + 1, C, d, [] => .nil
  | n + 1, C, d, s :: r => .cons (match supArgs s with
    | some args => .sup d "__init__" (cA G n C args)
    | none => cS G n C s) (cSup G n C d r)
theorem supArgs_ok {st : Stmt} {args : List Expr} (h : supArgs st = some args) : ∃ p0 p1 apos pos spos, st = .Expr (.Call (.Attribute (.Call (.Name "super" p0) [] [] p1) "__init__" apos) args [] pos) spos ∧ (apos.endLine == pos.line) = true ∧ args.all noStar = true ∧ args.length < 20 := by
  unfold supArgs at h
  split at h
  · split at h
    · rename_i hc
      obtain ⟨rfl, rfl, h1, h2, h3⟩ := hc
      cases h
      exact ⟨_, _, _, _, _, rfl, h1, h2, h3⟩
    · cases h
  · cases h
/-- its names: the parameters, then the captured ones, then its locals, some of them in cells -/
structure CScope (N ps fr : List Str) (sc : Scope) : Prop where
  kind : sc.kind = .function
  co : sc.isCoroutine = false
  gen : sc.isGenerator = false
  nd : N.Nodup
  pre : N.take (ps.length + fr.length) = ps ++ fr
  par : ∀ x ∈ ps, sc.names.lookup x = some .local ∨ sc.names.lookup x = some .cell
  ncl : ∀ y ∈ sc.names, y.2 = .cell → y.1 ∉ fr
  free : ∀ y ∈ sc.names, y.2 = .free → y.1 ∈ fr
  frk : ∀ x ∈ fr, sc.names.lookup x = some .free
def cscB (N ps fr : List Str) (sc : Scope) : Bool :=
  decide (sc.kind = .function) && !sc.isCoroutine && !sc.isGenerator && decide N.Nodup && decide (N.take (ps.length + fr.length) = ps ++ fr) && ps.all (fun x => decide (sc.names.lookup x = some .local) || decide (sc.names.lookup x = some .cell)) && sc.names.all (fun y => !decide (y.2 = .cell) || !decide (y.1 ∈ fr)) && sc.names.all (fun y => !decide (y.2 = .free) || decide (y.1 ∈ fr)) && fr.all (fun x => decide (sc.names.lookup x = some .free))
theorem cscope_by {N ps fr : List Str} {sc : Scope} (h : cscB N ps fr sc = true) : CScope N ps fr sc := by
  unfold cscB at h
  simp only [Bool.and_eq_true, Bool.not_eq_true', decide_eq_true_eq, List.all_eq_true, Bool.or_eq_true, decide_eq_false_iff_not] at h
  obtain ⟨⟨⟨⟨⟨⟨⟨⟨h1, h2⟩, h3⟩, h4⟩, h5⟩, h6⟩, h7⟩, h8⟩, h9⟩ := h
  exact ⟨h1, h2, h3, h4, h5, h6, fun y hy e => (h7 y hy).elim (fun z => absurd e z) id, fun y hy e => (h8 y hy).elim (fun z => absurd e z) id, h9⟩
def noCellB (sc : Scope) : Bool := sc.names.all fun y => !decide (y.2 = .cell)
theorem CScope.ns {N ps fr : List Str} {sc : Scope} (c : CScope N ps fr sc) (h : noCellB sc = true) : NdefX.NScope N ps fr sc := by
  have nc : ∀ y ∈ sc.names, y.2 ≠ .cell := fun y hy e => by
    have := List.all_eq_true.mp h y hy
    simp [e] at this
  exact ⟨c.kind, c.co, c.gen, c.nd, c.pre, fun x hx => (c.par x hx).elim id fun z => absurd rfl (nc _ (PySem.mem_of_lookup z)), nc, c.free, c.frk⟩
/-- the words of such a def -/
structure SD where
  name : Str
  qual : Str
  params : Arguments
  body : List Stmt
  scope : Scope
  dV : Value
  kV : Value
  doc : Value
  pm : Value
  ct : Value
  oc : Value
  an : Option Addr
  od : Option Addr
  osl : Array (Option Value)
  cda : Addr
  cc : Addr
  N : List Str
  fuel : Nat
  d : Str
  ar : Arg
  vs : Array Value
  file : Str
  tf : Tok
  ocd : Obj
  occ : Obj
  cdD : ClassData
abbrev SD.fd (s : SD) : FuncData := PySem.W.ksFn s.name s.qual s.params s.body s.scope s.dV s.kV s.doc s.pm s.an (.ref s.cda) s.ct s.cc
/-- what the written part says of it -/
structure SupP (P : Program) (K : PySem.W.Frag) (A : Ad) (G : GT) (k : Str) (fi : FnI) (s : SD) : Prop where
  fd : A.fd k = s.fd
  lk : K.lookup (A.fa k) = some ⟨s.oc, s.od, .func s.fd, s.osl⟩
  code : PySem.W.codeIn K (.ref s.cda) s.qual = true
  sco : CScope s.N fi.ps ["__class__"] s.scope
  nv : fi.nv = s.N.length
  body : fi.body = cSup G s.fuel ⟨s.N, s.scope, fun _ => false, none⟩ s.d s.body
  par : (s.params.posonlyargs ++ s.params.args).head? = some s.ar
  self : s.N[0]? = some s.ar.arg
  slf : s.scope.names.lookup s.ar.arg = some .local
  lcd : K.lookup s.cda = some s.ocd
  dcd : s.ocd.data = .fields s.vs
  vcd : s.vs[2]? = some (.str s.file s.tf)
  fil : (P.main.file == s.file) = true
  top : (P.main.scope.names.lookup ("super" : Str)).isSome = false
  lcc : K.lookup s.cc = some s.occ
  dcc : s.occ.data = .cell (some (.ref (A.ca s.d)))
  clD : PySem.W.clsIn K (A.ca s.d) = some s.cdD
  ksu : s.scope.names.lookup ("super" : Str) = some .globalImplicit
  kcl : s.scope.names.lookup ("__class__" : Str) = some .free
  fsu : ("super" : Str) ∈ G.free
  opq : PySem.W.nsIn K cStatics "thirdparty.any" = some none
  sup : ∀ c ci k2, G.cl c = some ci → G.sup c s.d "__init__" = some k2 → PySem.W.mroIn K (A.ca c) (.ref (A.ca s.d)) = some true ∧ PySem.W.ks_superIn K (A.ca c) (A.ca s.d) "__init__" = some (some (.ref (A.fa k2))) ∧
    PySem.W.typeIn K (.ref (A.fa k2)) = some (.type "function") ∧ PySem.W.fnIn K (A.fa k2) = true
abbrev SD.nf (s : SD) : NdefX.NF := ⟨s.name, s.qual, s.params, s.body, s.scope, [("__class__", s.cc)], s.cda⟩
section
variable {X : Cx} {A : Ad} {Wx : WX} {G : GT} {L : Lv} {C : CC} {n : Nat}
/-- statements, at a code -/
def PSsA (X : Cx) (c : Code) (sts : List Stmt) (t : TS) : Prop := ∀ (pins : List (Addr × Obj)) (s : Shared) (σ : L2.St) (H : Hp) (D : Ends), Inv X pins σ H s → t D σ H → _root_.PySem.wpAt (model X.prog X.w) X.A c (execs sts X.env) (SP X pins D) X.xe s
def PSA (X : Cx) (c : Code) (st : Stmt) (t : TS) : Prop := ∀ (pins : List (Addr × Obj)) (s : Shared) (σ : L2.St) (H : Hp) (D : Ends), Inv X pins σ H s → t D σ H → _root_.PySem.wpAt (model X.prog X.w) X.A c (exec st X.env) (SP X pins D) X.xe s
theorem PS.at {c : Code} {st : Stmt} {t : TS} (h : PS X st t) : PSA X c st t := fun pins s σ H D I q => _root_.PySem.wpAt_of_wpAny (h.run pins s σ H D I q)
theorem PSs.at {c : Code} {st : List Stmt} {t : TS} (h : PSs X st t) : PSsA X c st t := fun pins s σ H D I q => _root_.PySem.wpAt_of_wpAny (h.run pins s σ H D I q)
theorem pssa_cons {c : Code} {st : Stmt} {rest : List Stmt} {t u : TSW} (h1 : PSA X c st (canS (om X A) Wx t)) (h2 : PSsA X c rest (canS (om X A) Wx u)) : PSsA X c (st :: rest) (canS (om X A) Wx (fun D σ H => t { D with nx := u D } σ H)) := by
  intro pins s σ H D I ⟨σW, HW, DW, rs, rh, h, er⟩
  refine ks_wpAt_execs_cons (_root_.PySem.wpAt_mono (h1 pins s σ H { D with nx := canS (om X A) Wx u D } I ⟨σW, HW, { DW with nx := u DW }, rs, rh, h, ⟨fun σW' HW' σ' H' t1 rs1 rh1 z => ⟨σW', HW', DW, rs1, rh1, z, er.later t1⟩, er.rt, er.bk, er.ct, er.ex⟩⟩) (fun f s' hs => ?_) fun _ _ z => z)
  cases f with
  | next =>
    obtain ⟨σ', H', I', q⟩ := hs
    exact h2 pins s' σ' H' D I' q
  | _ => exact hs
/-- a def is called, as a code -/
theorem run_wc {k : Str} {fi : FnI} {pins : List (Addr × Obj)} {σ : L2.St} {H : Hp} {s : Shared} {Q : VK} {us zs : List Value} {vs vs' : List V} {ws ws' r : List W} {ks : List Str} {HW : HpW} {q : QW} {ee : EW} {c : CallW}
    (gf : GF X.w X.K X.mg A G) (F : FnsOk X.prog X.w X.K X.mg X.base A G n c) (hf : G.fn k = some fi) (hr : Room n X.A) (tk : Takes X Wx) (I : Inv X pins σ H s) (rv : Vals vs us) (rz : Vals vs' zs) (rw1 : RelWs (om X A) H ws vs) (rw2 : RelWs (om X A) H ws' vs')
    (hb : fi.bind ks ws ws' = some r) (rh : RelH (om X A) HW H) (h : c k r HW q ee) (nn : Nrm (om X A) H q Q) (xr : Xrm (om X A) H ee (fun cl d H' => Wx cl d σ H')) {R : Result → Shared → Prop} (hR : ∀ u s', EP X pins σ Q u s' → R (.ok (.ret u)) s') (hE : ∀ u s', X.xe u s' → R (.error u) s') :
    codeAny (model X.prog X.w) X.A (.call (.ref (A.fa k)) ⟨us, ks.zip zs⟩) R s := by
  obtain ⟨hs, hl, hb⟩ := FnI.bind_eq hb
  obtain ⟨all, bt, rel⟩ := gf.shp k fi hf _ _ hs s us zs I.kIn (by rw [← rv.length, ← rw1.length]) (by rw [← rz.length, ← rw2.length]; exact hl)
  obtain ⟨vr, r1, r2⟩ := rel H ws ws' vs vs' r rv rz rw1 rw2 hb
  refine codeAny_mono ((F k fi hf).run X.A X.stack s H ⟨us, ks.zip zs⟩ all vr Q (fun cl d H' => Wx cl d σ H') hr I.env0 bt r1 ⟨r, HW, q, ee, r2, rh, h, nn, xr⟩) fun r s' hq => ?_
  cases r with
  | error e => exact hE _ _ (xe_of tk I (fun _ _ _ z => z) hq)
  | ok fl =>
    cases fl with
    | ret u => exact hR _ _ (I.after hq)
    | next => exact False.elim hq
    | brk => exact False.elim hq
    | cont => exact False.elim hq
theorem sup_eq {env : Env} {o : Expr} {m : Str} {apos pos : Pos} {args : List Expr} (hform : methodCallForm (args.length + 0) (backTo pos (starEach args env)) [] = true) (hline : (apos.endLine == pos.line) = true) :
    eval (.Call (.Attribute o m apos) args [] pos) env = (do
      let ov ← attributeBase o m env (eval o env)
      standAt apos.atName
      let (f, first) ← holding [ov] (getMethod ov m (do return (← importBound o env).getD true))
      callWith pos f first (backTo pos (starEach args env)) []) := by
  have hk : backToKw pos (keywordEach [] env) = [] := rfl
  have hpos : methodCallPos true o env apos pos = pure pos := by unfold methodCallPos; simp [hline]
  rw [arm_eval_Call]
  unfold methodCall
  rw [hk]
  simp only [List.length_nil, hform, calleeOf, if_true, hpos, pure_bind]
theorem form_ok {env : Env} {pos : Pos} {args : List Expr} (hst : args.all noStar = true) (h3 : args.length < 20) : methodCallForm (args.length + 0) (backTo pos (starEach args env)) [] = true := by
  unfold methodCallForm
  rw [all_ok hst]
  have : decide (args.length + 0 + (if ([] : List (Option Str × Sem Value)).isEmpty then 0 else 1) < 30) = true := decide_eq_true (by
    show args.length + 0 + 0 < 30
    omega)
  rw [this]; rfl
theorem psa_sup {k0 : Str} {fi0 : FnI} {sd : SD} {args : List Expr} {ts : TAW} {c : CallW} {body : List Stmt} {p0 p1 apos pos spos : Pos} (sp : SupP X.prog X.K A G k0 fi0 sd) (gf : GF X.w X.K X.mg A G) (F : FnsOk X.prog X.w X.K X.mg X.base A G n c) (hr : Room n X.A) (tk : Takes X Wx)
    (hN : X.N = sd.N) (hsc : X.env.scope = sd.scope) (hfu : X.env.func = some (A.fa k0)) (hcode : X.env.code = .ref sd.cda) (hcl : X.env.cells.lookup ("__class__" : Str) = some sd.cc) (ha : PAw X A Wx args ts) (hne : args = [] → ∀ σ H Q E, ts σ H Q E → Q [] H)
    (hst : args.all noStar = true) (h3 : args.length < 20) (hline : (apos.endLine == pos.line) = true) :
    PSA X (.func body X.env) (.Expr (.Call (.Attribute (.Call (.Name "super" p0) [] [] p1) "__init__" apos) args [] pos) spos) (canS (om X A) Wx (fun D σ H => (match sg σ 0 with
    | some (.ref p) => (match H p with
      | some (.ins cl _) => (match G.cl cl with
        | some _ => (match G.sup cl sd.d "__init__" with
          | some k => (match G.fn k with
            | some fi => ts σ H (fun ws H1 => match fi.bind [] (.ref p :: ws) [] with
              | some zs => c k zs H1 (fun _ H2 => D.nx σ H2) fun x H2 => D.ex x σ H2
              | none => False) fun x H2 => D.ex x σ H2
            | none => False)
          | none => False)
        | none => False)
      | _ => False)
    | _ => False))) := by
  intro pins s σ H D I ⟨σW, HW, DW, rs, rh, h, er⟩
  dsimp only at h
  cases es : sg σW 0 with
  | none => rw [es] at h; exact h.elim
  | some w0 =>
  rw [es] at h
  cases w0 <;> first | (exact False.elim h; done) | skip
  rename_i x
  dsimp only at h
  cases ex : HW x with
  | none => rw [ex] at h; exact h.elim
  | some ob =>
  rw [ex] at h
  cases ob <;> first | (exact False.elim h; done) | skip
  rename_i cn fs
  dsimp only at h
  cases ec : G.cl cn with
  | none => rw [ec] at h; exact h.elim
  | some ci =>
  rw [ec] at h
  dsimp only at h
  cases ek : G.sup cn sd.d "__init__" with
  | none => rw [ek] at h; exact h.elim
  | some k =>
  rw [ek] at h
  dsimp only at h
  cases ef : G.fn k with
  | none => rw [ef] at h; exact h.elim
  | some fi =>
  rw [ef] at h
  dsimp only at h
  obtain ⟨hmro, hsup, hty, hfn⟩ := sp.sup cn ci k ec ek
  obtain ⟨dx, xs, ei, rf⟩ := rh _ _ ex
  obtain ⟨mA, O, _⟩ := ins_get I.hok ei
  obtain ⟨v0, e0, r0⟩ := rs.get (sg_eq es)
  obtain rfl := r0.i_ref
  have hks : X.env.kindOf "super" = some .globalImplicit := by unfold Env.kindOf; rw [hsc]; exact sp.ksu
  have hkc : X.env.kindOf "__class__" = some .free := by unfold Env.kindOf; rw [hsc]; exact sp.kcl
  have hkl : X.env.kindOf sd.ar.arg = some .local := by unfold Env.kindOf; rw [hsc]; exact sp.slf
  obtain ⟨mb, b1, b2⟩ := I.mod.blt
  obtain ⟨m, hn, hl⟩ := I.loc
  obtain ⟨u, ru, lk⟩ := hl 0 sd.ar.arg _ (by rw [hN]; exact sp.self) e0 (.inl hkl)
  obtain rfl : u = Value.ref x := ru
  have hm : m sd.ar.arg = some (.ref x) := by
    rcases lk with ⟨_, q⟩ | ⟨q, _⟩
    · exact q
    · rw [hkl] at q; rcases q with q | q <;> cases q
  obtain ⟨oD, hD1, hD2⟩ : ∃ oD, s.heap.get? (A.ca sd.d) = some oD ∧ oD.data = .cls sd.cdD := by
    have hD := sp.clD
    unfold PySem.W.clsIn at hD
    split at hD
    · rename_i c d cd' sl ho
      cases hD
      exact ⟨_, I.kIn _ _ ho, rfl⟩
    · cases hD
  refine ks_wpAt_Expr_any (ks_wpAt_MethodCall (pl := (do return (← importBound (.Call (.Name "super" p0) [] [] p1) X.env).getD true)) ?_ (sup_eq (form_ok hst h3) hline)) I.quiet (swap_ok rfl)
  obtain ⟨hh, g, d, t, os⟩ := s
  refine ks_wpAt_super_base hks hkc (by decide) hfu (I.kIn _ _ sp.lk) rfl sp.par hcode (I.kIn _ _ sp.lcd) sp.dcd sp.vcd sp.fil sp.top ?_
  refine PySem.W.ks_loadName_global I.ok.kind hks (Calls.loadGlobal_builtin (by rw [I.ok.glob]; exact I.mod.glob.keeps I.bk) (gf.fre _ sp.fsu) (by rw [I.ok.blt]; exact b1.keeps I.bk) ((b2 "super" (by decide)).trans (by decide +kernel)) ⟨rfl, ?_⟩)
  refine wpAny_loadName_free I.ok.kind hkc hcl ⟨_, I.kIn _ _ sp.lcc, sp.dcc⟩ ?_
  refine wpAny_loadName_local I.ok.kind hkl hn hm ?_
  refine ks_wpAny_isType_cls hD1 hD2 ⟨rfl, ?_⟩
  refine ks_wpAny_call_super hD1 hD2 O.obj rfl (fun c e => by cases e) (PySem.W.looks_mroIn I.kIn hmro) fun h' hso kp => ?_
  have I1 : Inv X pins σ H ⟨h', g, d, t, os⟩ := I.kept (t' := t) kp
  cases hc : PySem.W.clsIn X.K (A.ca cn) with
  | none => unfold PySem.W.ks_superIn at hsup; rw [hc] at hsup; cases hsup
  | some cd =>
  unfold PySem.W.ks_superIn at hsup
  rw [hc] at hsup
  obtain ⟨of, hof, hofc⟩ : ∃ of, h'.get? (A.fa k) = some of ∧ of.cls = .type "function" := by
    have ht' : (X.K.lookup (A.fa k)).map (·.cls) = some (.type "function") := hty
    cases z : X.K.lookup (A.fa k) with
    | none => rw [z] at ht'; cases ht'
    | some of => rw [z] at ht'; exact ⟨of, I1.kIn _ _ z, Option.some.inj ht'⟩
  obtain ⟨od, hia, _⟩ := O.look
  refine ks_wpAny_getMethod_super hso (PySem.W.looks_opaque I1.kIn sp.opq) (l₀ := cd.mro) (fun A Q E s k q => wpAny_bind ((PySem.W.looks_clsIn I1.kIn hc) A _ E s k (wpAny_pure q))) rfl I1.kIn hsup hof hofc (PySem.W.ks_ne I.kIn hia hc) (by decide) ?_
  have kp2 : ∀ b u, h'.get? b = some u → (h'.push ({ cls := .type "method", data := .fields #[.ref (A.fa k), .ref x] } : Obj)).get? b = some u := fun b o e => Heap.get?_push_of_some _ e
  have I2 : Inv X pins σ H ⟨h'.push ({ cls := .type "method", data := .fields #[.ref (A.fa k), .ref x] } : Obj), g, d, t + 1, os⟩ := I1.kept (t' := t + 1) kp2
  have nq : H h'.objs.size = none := I1.hok.fresh (Nat.le_refl _)
  have hq : (h'.push ({ cls := .type "method", data := .fields #[.ref (A.fa k), .ref x] } : Obj)).get? h'.objs.size = some (PySem.W.methodObj (.ref (A.fa k)) (.ref x)) := Heap.get?_push_at rfl rfl
  have I3 : Inv X (pins ++ [(h'.objs.size, PySem.W.methodObj (.ref (A.fa k)) (.ref x))]) σ H ⟨h'.push ({ cls := .type "method", data := .fields #[.ref (A.fa k), .ref x] } : Obj), g, d, t + 1, os⟩ := by
    refine I2.pins_of fun p hp => (List.mem_append.mp hp).elim (fun z => I2.pin p (List.mem_append_right _ z)) fun z => ?_
    rw [List.mem_singleton] at z
    subst z
    obtain ⟨f0, f1, f2, _⟩ := I1.fpOk (Nat.le_refl _) nq
    exact ⟨hq, f0, f1, f2, fun v e => by cases e⟩
  have run : ∀ {us : List Value} {vs : List V} {ws : List W} {H2 : Hp} {HW2 : HpW} {s2 : Shared}, Inv X (pins ++ [(h'.objs.size, PySem.W.methodObj (.ref (A.fa k)) (.ref x))]) σ H2 s2 → TLe (om X A) H H2 → Vals vs us → RelWs (om X A) H2 ws vs → RelH (om X A) HW2 H2 → (match fi.bind [] (.ref x :: ws) [] with
      | some zs => c k zs HW2 (fun _ H2 => DW.nx σW H2) fun x H2 => DW.ex x σW H2
      | none => False) → PySem.W.MethP X.K h'.objs.size (A.fa k) (.ref x) s2.heap ∧ wpAny (model X.prog X.w) X.A (call (.ref h'.objs.size) us []) (fun _ => SP X pins D .next) X.xe s2 := by
    intro us vs ws H2 HW2 s2 I4 t2 r rw1 rh2 q2
    have pm := (I4.pin (h'.objs.size, PySem.W.methodObj (.ref (A.fa k)) (.ref x)) (List.mem_append_right _ (List.mem_append_right _ (List.mem_singleton.mpr rfl)))).1
    refine ⟨⟨pm, I4.kIn⟩, ?_⟩
    cases eb : fi.bind [] (.ref x :: ws) [] with
    | none => rw [eb] at q2; exact q2.elim
    | some zs =>
      rw [eb] at q2
      refine wpAny_call (ks_codeAny_call_bound pm (run_wc (us := .ref x :: us) (vs := .ref x :: vs) (ws := .ref x :: ws) (zs := []) (vs' := []) (ws' := []) (ks := []) (Q := fun _ H' => D.nx σ H') gf F ef hr tk I4 (.cons rfl r) .nil (.cons .ref rw1) .nil eb rh2 q2 (fun w HW' v H' t3 _ rh3 z => er.nx _ _ _ _ (t2.trans t3) (rs.mono (t2.trans t3)) rh3 z) ((er.later t2).xrm (rs.mono t2)) (fun u s' hs => ?_) fun u s' hs => hs))
      obtain ⟨v, H', I5, _, z⟩ := hs
      exact ⟨σ, H', I5.unpinned, z⟩
  cases hes : args with
  | nil =>
    obtain ⟨mp, cl⟩ := run (us := []) (vs := []) (ws := []) I3 TLe.refl .nil .nil rh (hne hes σW HW _ _ h)
    exact PySem.W.callWith_of rfl (PySem.W.keeps_M hfn) (evalArgs_nil3 ⟨mp, cl⟩)
  | cons e r0 =>
    subst hes
    have hst' := hst
    rw [List.all_cons, Bool.and_eq_true] at hst'
    refine PySem.W.callWith_of (P := PySem.W.MethP X.K h'.objs.size (A.fa k) (.ref x)) (by rw [any_ok hst]; rfl) (PySem.W.keeps_M hfn) ?_
    have hs1 : starEach (e :: r0) X.env = (false, eval e X.env) :: starEach r0 X.env := star_ok hst'.1
    have run1 := ha.run pos _ _ σ H _ I3 ⟨σW, HW, _, _, rs, rh, h, fun ws HW2 vs H2 t r rh1 z => (⟨ws, HW2, t, r, rh1, z⟩ : stopA (om X A) H _ vs H2), er.xrm rs⟩
    rw [hs1] at run1 ⊢
    refine Calls.evalArgs_plain (wpAny_mono run1 (fun us s3 ⟨vs, H3, I4, rv, ws, HW3, t3, rw1, rh3, q3⟩ => ?_) fun _ _ z => z)
    exact run I4 t3 rv rw1 rh3 q3
end
end Uw

namespace Uw
open PySem PySem.Spec PyProof.Rows L2
/-! ### a frame with captured cells and cells of its own -/
theorem cellsFrom_app : ∀ (names : List (Str × NameKind)) (n : Nat) (a b : List (Str × Addr)), cellsFrom n names (a ++ b) = cellsFrom n names a ++ b
  | [], n, a, b => rfl
  | (x, k) :: r, n, a, b => by
    unfold cellsFrom
    split
    · exact cellsFrom_app r (n + 1) ((x, n) :: a) b
    · exact cellsFrom_app r n a b
theorem cellsFrom_mem {x : Str} {c : Addr} : ∀ (names : List (Str × NameKind)) (n : Nat) (a : List (Str × Addr)), (x, c) ∈ cellsFrom n names a → (x, c) ∈ a ∨ (x, NameKind.cell) ∈ names
  | [], n, a, h => .inl h
  | (y, k) :: r, n, a, h => by
    unfold cellsFrom at h
    split at h
    · rename_i hk
      rcases cellsFrom_mem r _ _ h with h | h
      · rcases List.mem_cons.mp h with h | h
        · cases h
          right
          have : k = .cell := by simpa using hk
          rw [this]; simp
        · exact .inl h
      · exact .inr (List.mem_cons_of_mem _ h)
    · rcases cellsFrom_mem r _ _ h with h | h
      · exact .inl h
      · exact .inr (List.mem_cons_of_mem _ h)
theorem look_app {cs clo : List (Str × Addr)} {x : Str} {c : Addr} (h : cs.lookup x = some c) : (cs ++ clo).lookup x = some c := by
  rw [List.lookup_append, h]; rfl
theorem look_app0 {cs clo : List (Str × Addr)} {x : Str} (h : cs.lookup x = none) : (cs ++ clo).lookup x = clo.lookup x := by
  rw [List.lookup_append, h]; rfl
section
variable {M : Model} {A : Around} {E : Value → Shared → Prop} {s₀ s : Shared} {m cm : Str → Option Value} {env : Env} {cs : List (Str × Addr)}
theorem stLD {n : Str} {v : Value} {Q : Unit → Shared → Prop} (x : InCallC s₀ env.locals m cs cm s) (hk : env.scope.kind = .function) (hl : env.kindOf n = some .local)
    (h : ∀ s', InCallC s₀ env.locals (fun y => if y = n then some v else m y) cs cm s' → Q () s') : wpAny M A (storeName env n v) Q E s := by
  refine wpAny_storeName_local hl x.toInCall.ns (fun h' hn' hs' => h _ ⟨⟨?_, hn', fun b o e => ?_, x.toInCall.fresh⟩, fun k c hc => ?_, x.apart, x.above⟩) (by rw [hk]; rfl)
  · obtain ⟨h₁, tk, rfl⟩ := x.toInCall.same
    exact ⟨h', _, rfl⟩
  · exact hs'.extBut b o (Nat.ne_of_lt (Nat.lt_of_lt_of_le (Heap.lt_size e) x.toInCall.fresh)) (x.toInCall.keep b o e)
  · exact (x.cell k c hc).sameBut hs' (Nat.ne_of_gt (x.above k c (PySem.mem_of_lookup hc)))
theorem stCD {n : Str} {c : Addr} {v : Value} {Q : Unit → Shared → Prop} (x : InCallC s₀ env.locals m cs cm s) (hk : env.scope.kind = .function) (hl : env.kindOf n = some .cell)
    (he : env.cells.lookup n = some c) (hc : cs.lookup n = some c)
    (h : ∀ s', InCallC s₀ env.locals m cs (fun y => if y = n then some v else cm y) s' → Q () s') : wpAny M A (storeName env n v) Q E s := by
  have hLc := x.above n c (PySem.mem_of_lookup hc)
  refine wpAny_storeName_cell hk hl he (x.cell n c hc) fun h' hc' hs' => h _ ⟨⟨?_, x.toInCall.ns.sameBut hs' (Nat.ne_of_lt hLc), fun b o e => ?_, x.toInCall.fresh⟩, fun k c' hk' => ?_, x.apart, x.above⟩
  · obtain ⟨h₁, tk, rfl⟩ := x.toInCall.same
    exact ⟨h', _, rfl⟩
  · exact hs'.extBut b o (Nat.ne_of_lt (Nat.lt_trans (Nat.lt_of_lt_of_le (Heap.lt_size e) x.toInCall.fresh) hLc)) (x.toInCall.keep b o e)
  · by_cases hkn : k = n
    · subst hkn
      rw [hc] at hk'; cases hk'
      simpa using hc'
    · rw [if_neg hkn]
      exact (x.cell k c' hk').sameBut hs' fun e => hkn (name_of_addr x.apart (PySem.mem_of_lookup hk') (e ▸ PySem.mem_of_lookup hc))
theorem bindParamsD (f : Str × Value → PUnit → Sem (ForInStep PUnit)) (hf : ∀ n v u, f (n, v) u = (do storeName env n v; pure (.yield ⟨⟩))) (hk : env.scope.kind = .function) (hcs : ∀ n c, cs.lookup n = some c → env.cells.lookup n = some c) :
    ∀ (binds : List (Str × Value)) (m cm : Str → Option Value) (s : Shared) (Q : PUnit → Shared → Prop), InCallC s₀ env.locals m cs cm s →
      (∀ x ∈ binds, env.kindOf x.1 = some .local ∨ (env.kindOf x.1 = some .cell ∧ (cs.lookup x.1).isSome = true)) →
      (∀ s', InCallC s₀ env.locals (bindL env.kindOf binds m) cs (bindC env.kindOf binds cm) s' → Q ⟨⟩ s') → wpAny M A (forIn binds ⟨⟩ f) Q E s
  | [], m, cm, s, Q, x, _, h => by rw [List.forIn_nil]; exact wpAny_pure (h s x)
  | (n, v) :: r, m, cm, s, Q, x, hkind, h => by
    rw [List.forIn_cons, hf]
    have hr : ∀ y ∈ r, env.kindOf y.1 = some .local ∨ (env.kindOf y.1 = some .cell ∧ (cs.lookup y.1).isSome = true) := fun y hy => hkind y (List.mem_cons_of_mem _ hy)
    rcases hkind (n, v) List.mem_cons_self with hl | ⟨hl, hc⟩
    · refine wpAny_bind (wpAny_bind (stLD x hk hl fun s' x' => wpAny_pure (bindParamsD f hf hk hcs r _ _ s' Q x' hr fun s'' x'' => h s'' ?_)))
      unfold bindL bindC; rw [if_pos hl, if_pos hl]; exact x''
    · obtain ⟨c, hc⟩ := Option.isSome_iff_exists.mp hc
      have hnl : ¬ env.kindOf n = some .local := by rw [hl]; decide
      refine wpAny_bind (wpAny_bind (stCD x hk hl (hcs _ _ hc) hc fun s' x' => wpAny_pure (bindParamsD f hf hk hcs r _ _ s' Q x' hr fun s'' x'' => h s'' ?_)))
      unfold bindL bindC; rw [if_neg hnl, if_neg hnl]; exact x''
end
section
variable {M : Model} {A : Around} {E : Value → Shared → Prop} {s : Shared}
theorem newEnvD {scope : Scope} {globals : Addr} {clo : List (Str × Addr)} {binds : List (Str × Value)} {qual : Str} {func : Option Addr} {code : Value} {builtins : Addr} {Q : Env → Shared → Prop}
    (hk : scope.kind = .function)
    (hkind : ∀ x ∈ binds, scope.names.lookup x.1 = some .local ∨ (scope.names.lookup x.1 = some .cell ∧ ((cellsFrom (s.heap.objs.size + 1) scope.names []).lookup x.1).isSome = true))
    (hQ : ∀ env, env = newEnv scope s.heap.objs.size globals (cellsFrom (s.heap.objs.size + 1) scope.names [] ++ clo) qual func code none builtins →
      ∀ s', InCallC s env.locals (bindL env.kindOf binds fun _ => none) (cellsFrom (s.heap.objs.size + 1) scope.names []) (bindC env.kindOf binds fun _ => none) s' → Q env s') :
    wpAny M A (newFunctionEnv scope globals clo binds qual func code none builtins) Q E s := by
  simp only [newFunctionEnv, Option.isSome_none, Bool.false_eq_true, if_false]
  refine wpAny_bind (wpAny_alloc ?_)
  refine wpAny_bind (wpAny_layCells _ (fun name kind cells => by cases hkc : kind == NameKind.cell <;> simp [hkc]) _ _ _ _ ?_)
  have ok := cellsFrom_ok scope.names (s.heap.push { cls := .type "frame", data := .dict #[] }) (s.heap.objs.size + 1) [] ⟨fun _ _ hm => (nomatch hm), List.Pairwise.nil⟩ (by rw [Heap.size_push]; exact Nat.le_refl _)
  rw [Heap.size_push] at ok
  rw [show ({ s with heap := s.heap.push { cls := .type "frame", data := .dict #[] } } : Shared).heap.objs.size = s.heap.objs.size + 1 from Heap.size_push ..]
  have ecl : cellsFrom (s.heap.objs.size + 1) scope.names clo = cellsFrom (s.heap.objs.size + 1) scope.names [] ++ clo := cellsFrom_app scope.names (s.heap.objs.size + 1) [] clo
  rw [ecl]
  refine wpAny_bind (bindParamsD (s₀ := s) (cs := cellsFrom (s.heap.objs.size + 1) scope.names []) (env := newEnv scope s.heap.objs.size globals (cellsFrom (s.heap.objs.size + 1) scope.names [] ++ clo) qual func code none builtins)
    _ (fun _ _ _ => rfl) hk (fun n c h => look_app h) binds (fun _ => none) (fun _ => none) _ _
    ⟨⟨⟨_, _, rfl⟩, (Heap.Ns.new s.heap (.type "frame")).keeps (pushCells_keeps _ _), fun b o e => pushCells_keeps _ _ b o (Heap.get?_push_of_some _ e), Nat.le_refl _⟩,
      fun n c hc => (ok.empty n c (PySem.mem_of_lookup hc)).1, ok.apart, fun n c hm => (ok.empty n c hm).2⟩
    hkind fun s' x => wpAny_pure (hQ _ rfl s' x))
end
section
variable {CX : CXT} {P : Program} {w : World} {K : PySem.W.Frag} {mg : Str → Option Value} {base : Heap} {N ps fr : List Str} {F : NdefX.NF} {f : Addr} {A : Around} {outer : List Env} {s s1 : Shared} {H : Hp} {E : XK} {us : List Value} {vs : List V} {clo : List (Str × Addr)}
theorem inv_startC (S : CScope N ps fr F.scope) (hd : A.handled = none) (e0 : Env0 P w K mg base A outer s H) (hl : vs.length = ps.length) (r : Vals vs us) (hcl : F.cl = cellsFrom (s.heap.objs.size + 1) F.scope.names [] ++ clo) (hfr : fr.length = 1)
    (CA : NdefX.CellsAt clo fr [none] s.heap H) (x : InCallC s s.heap.objs.size (bindL (fun y => F.scope.names.lookup y) (ps.zip us) fun _ => none) (cellsFrom (s.heap.objs.size + 1) F.scope.names []) (bindC (fun y => F.scope.names.lookup y) (ps.zip us) fun _ => none) s1) :
    Inv (NdefX.ncx CX P w K mg base N F f A outer s H E) [] (NdefX.startF N vs [none]) H s1 := by
  have hpl : ps.length + fr.length ≤ N.length := by
    have q := congrArg List.length S.pre
    rw [List.length_take, List.length_append] at q
    omega
  obtain ⟨h1, tk, rfl, hk⟩ := x.done
  have noA : ∀ b : Addr, b ∉ (NdefX.ncx CX P w K mg base N F f A outer s H E).ex := fun b z => absurd (show b ∈ ([] : List Addr) from z) (by simp)
  have cellK : ∀ {c : Addr} {v : Option Value}, s.heap.IsCell c v → h1.IsCell c v := fun {c v} ⟨o, ho, hd⟩ => ⟨o, hk _ _ ho, hd⟩
  have ab : ∀ {y : Str} {c : Addr}, (cellsFrom (s.heap.objs.size + 1) F.scope.names []).lookup y = some c → s.heap.objs.size < c := fun {y c} h => x.above y c (PySem.mem_of_lookup h)
  have bl : ∀ {y : Str} {c : Addr}, clo.lookup y = some c → c < s.heap.objs.size := fun {y c} h => by
    obtain ⟨v, o, ho, _⟩ := (CA.all y c h).2
    exact Heap.lt_size ho
  have cases_ : ∀ {y : Str} {c : Addr}, F.cl.lookup y = some c → (cellsFrom (s.heap.objs.size + 1) F.scope.names []).lookup y = some c ∨ clo.lookup y = some c := fun {y c} h => by
    rw [hcl, List.lookup_append] at h
    cases e : (cellsFrom (s.heap.objs.size + 1) F.scope.names []).lookup y with
    | none => rw [e] at h; exact .inr h
    | some d => rw [e] at h; exact .inl h
  have hasC : ∀ {y : Str}, F.scope.names.lookup y = some .cell → ∃ c, (cellsFrom (s.heap.objs.size + 1) F.scope.names []).lookup y = some c := fun {y} h => cell_has h
  refine ⟨⟨e0.mod, S.kind, rfl, rfl, Nat.le_refl _, fun y z c h1 h2 => ?_, fun y hy => ?_, fun y c z _ => ?_, fun _ => hd, Around.frames_deeper e0.frames, .inr ⟨rfl, rfl⟩, fun b z => absurd z (noA b), e0.bs, e0.bsz, fun b _ _ => noA b,
      fun b z => absurd z (noA b), e0.funs, e0.frf⟩,
    rfl, e0.bare, Un.kept hk, ⟨_, x.toInCall.ns, fun i y v e1 e2 e3 => ?_⟩, fun y c e => ?_, e0.hok.fresh (Nat.le_refl _), fun y c e => ?_, fun q hq => absurd (show q ∈ ([] : List (Addr × Obj)) ++ [] from hq) (by simp), e0.hok.kept hk, ?_⟩
  · have h1 : F.cl.lookup y = some c := h1
    have h2 : F.cl.lookup z = some c := h2
    rcases cases_ h1 with a1 | a1 <;> rcases cases_ h2 with a2 | a2
    · exact name_of_addr x.apart (PySem.mem_of_lookup a1) (PySem.mem_of_lookup a2)
    · exact absurd (ab a1) (Nat.not_lt_of_lt (bl a2))
    · exact absurd (ab a2) (Nat.not_lt_of_lt (bl a1))
    · exact CA.inj y z c a1 a2
  · have hy : F.scope.names.lookup y = some .cell ∨ F.scope.names.lookup y = some .free := hy
    show ∃ c, F.cl.lookup y = some c
    rw [hcl]
    rcases hy with hy | hy
    · obtain ⟨c, hc⟩ := hasC hy
      exact ⟨c, look_app hc⟩
    · obtain ⟨i, hi⟩ := List.mem_iff_getElem?.mp (S.free _ (PySem.mem_of_lookup hy) rfl)
      obtain ⟨c, hc, _⟩ := CA.has i y hi
      cases e : (cellsFrom (s.heap.objs.size + 1) F.scope.names []).lookup y with
      | none => exact ⟨c, by rw [look_app0 e]; exact hc⟩
      | some d => exact ⟨d, look_app e⟩
  · have z : false = true := z
    cases z
  · have e1 : N[i]? = some y := e1
    unfold NdefX.startF at e2
    have h1 : i < ps.length := by
      by_cases h1 : i < ps.length
      · exact h1
      · rw [List.getElem?_append_right (by rw [List.length_map]; omega), List.length_map] at e2
        by_cases h2 : i - vs.length = 0
        · rw [h2] at e2; simp at e2
        · rw [List.getElem?_append_right (by simp; omega), List.getElem?_replicate] at e2
          split at e2 <;> cases e2
    have hq : (ps ++ fr)[i]? = some y := by
      rw [← S.pre, List.getElem?_take_of_lt (by omega)]
      exact e1
    rw [List.getElem?_append_left h1] at hq
    rw [List.getElem?_append_left (by rw [List.length_map]; omega), List.getElem?_map] at e2
    have ha : vs[i]? = some v := by
      cases e : vs[i]? with
      | none => rw [e] at e2; cases e2
      | some a => rw [e] at e2; cases e2; rfl
    obtain ⟨u, hu, rv⟩ := r.get ha
    have ndP : ps.Nodup := by
      have q := S.nd.sublist (List.take_sublist (ps.length + fr.length) N)
      rw [S.pre] at q
      exact (List.nodup_append.mp q).1
    refine ⟨u, rv, ?_⟩
    rcases S.par y (List.mem_of_getElem? hq) with k | k
    · exact .inl ⟨k, bindL_get ndP hq hu k⟩
    · obtain ⟨c, hc⟩ := hasC k
      refine .inr ⟨.inl k, c, by show F.cl.lookup y = some c; rw [hcl]; exact look_app hc, ?_⟩
      have q := x.cell y c hc
      rw [bindC_get ndP hq hu (by show F.scope.names.lookup y ≠ _; rw [k]; decide)] at q
      exact q
  · have e : F.cl.lookup y = some c := e
    rcases cases_ e with a1 | a1
    · exact ⟨_, x.cell y c a1⟩
    · obtain ⟨v, z⟩ := (CA.all y c a1).2
      exact ⟨v, cellK z⟩
  · have e : F.cl.lookup y = some c := e
    rcases cases_ e with a1 | a1
    · exact e0.hok.fresh (Nat.le_of_lt (ab a1))
    · exact (CA.all y c a1).1
  · unfold NdefX.startF
    show _ = N.length
    rw [List.length_append, List.length_append, List.length_map, List.length_replicate]
    have : ([none] : List (Option V)).length = 1 := rfl
    omega
end
end Uw

namespace Uw
open PySem PySem.Spec PyProof.Rows L2
section
open Builtin Builtin.ObjectAttr
variable {prog : Program} {w : World} {A : Around} {E : Value → Shared → Prop} {R : Result → Shared → Prop} {hp : Heap} {g : Array GenState} {d : Drawn} {t : Nat} {os : OsState}
variable {K : PySem.W.Frag} {name : Str} {tk : Tok} {v : Value} {x C : Addr} {fv : Array Value} {B newId initId : String} {tl : List Value}
theorem xc_cd (T : XcOk K C B newId initId tl) : ∃ cd, PySem.W.clsIn K C = some cd ∧ cd.hasDict = true := by
  obtain ⟨cd, hc, h⟩ := PySem.W.any_some T.hd
  exact ⟨cd, hc, h⟩
theorem taker_none (ha : PySem.W.findIn K (.ref C) name = some none) : PySem.W.takerIn K C name = some none := by
  unfold PySem.W.takerIn
  rw [ha]; rfl
theorem xosa_new (T : XcOk K C B newId initId tl) (X : K.In hp) (hx : hp.get? x = some { cls := .ref C, data := .fields fv }) (ha : PySem.W.findIn K (.ref C) name = some none)
    (hq : ∀ h' tk' dx, (∀ b o, b ≠ x → hp.get? b = some o → h'.get? b = some o) → hp.objs.size ≤ dx → dx ≠ x → h'.get? x = some { cls := .ref C, dict := some dx, data := .fields fv } →
      h'.Ns1 dx (fun y => if y = name then some v else none) → R (.ok (.ret .none)) ⟨h', g, d, tk', os⟩) :
    codeAny (model prog w) A (.call (.builtin "object.__setattr__") ⟨[.ref x, .str name tk, v], []⟩) R ⟨hp, g, d, t, os⟩ := by
  have I : PySem.W.InstAt hp x { cls := .ref C, data := .fields fv } C none := ⟨hx, rfl, rfl, trivial⟩
  obtain ⟨cd, hcd, hh⟩ := xc_cd T
  have hxs : x ≠ hp.objs.size := Nat.ne_of_lt (Heap.lt_size hx)
  refine PySem.W.osa_openX T.sf X I T.ovr (taker_none ha) fun b => ?_
  have hcls : PySem.W.Looks (model prog w) hp (classData C) cd := PySem.W.looks_clsIn X hcd
  obtain ⟨nm, bs, mro, ns, qn, hd, sn, sb, ab, col, del⟩ := cd
  dsimp only at hh
  subst hh
  show wpAny _ _ (storeInOwnDict (.ref x) (.ref C) (.str name tk) name v b) _ _ _
  unfold storeInOwnDict ownDictForStores
  repeat (first | with_reducible refine HandSPX.store_in_new ?_ ?_ | with_reducible refine wpAny_loadPart_at hx ?_ | with_reducible refine hcls.at ?_ | wp_step)
  · exact ⟨_, #[], _, (Heap.get?_update_ne _ _ _ _ hxs.symm).trans (Heap.get?_push_at rfl rfl), rfl, fun e he => absurd he (by simp), fun _ => rfl⟩
  · intro h' tk' hn' hs
    have hx₁ : (hp.push { cls := .type "dict", data := .dict #[] }).get? x = some { cls := .ref C, data := .fields fv } := Heap.get?_push_of_some _ hx
    refine hq h' tk' hp.objs.size (fun b o hb ho => ?_) (Nat.le_refl _) hxs.symm ?_ hn'
    · exact (hs.2 b (Nat.ne_of_lt (Heap.lt_size ho))).trans ((Heap.get?_update_ne _ _ _ _ hb).trans (Heap.get?_push_of_some _ ho))
    · exact (hs.2 x hxs).trans (Heap.get?_update_self _ hx₁ rfl)
theorem xosa_old {dx : Addr} {m0 : Str → Option Value} {nl : List Str} (T : XcOk K C B newId initId tl)
    (X : K.In hp) (hx : hp.get? x = some { cls := .ref C, dict := some dx, data := .fields fv }) (hns : hp.Ns1 dx m0) (hw : Within m0 nl) (hz : nl.length ≤ 1000) (ha : PySem.W.findIn K (.ref C) name = some none)
    (hq : ∀ h' tk', (∀ b o, b ≠ dx → hp.get? b = some o → h'.get? b = some o) → h'.Ns1 dx (fun y => if y = name then some v else m0 y) → R (.ok (.ret .none)) ⟨h', g, d, tk', os⟩) :
    codeAny (model prog w) A (.call (.builtin "object.__setattr__") ⟨[.ref x, .str name tk, v], []⟩) R ⟨hp, g, d, t, os⟩ := by
  obtain ⟨oD, esD, epD, hoD, hdD, _⟩ := hns.count hw
  have I : PySem.W.InstAt hp x { cls := .ref C, dict := some dx, data := .fields fv } C (some oD) := ⟨hx, rfl, rfl, hoD⟩
  obtain ⟨cd, hcd, hh⟩ := xc_cd T
  refine PySem.W.osa_openX T.sf X I T.ovr (taker_none ha) fun b => ?_
  have hcls : PySem.W.Looks (model prog w) hp (classData C) cd := PySem.W.looks_clsIn X hcd
  obtain ⟨nm, bs, mro, ns, qn, hd, sn, sb, ab, col, del⟩ := cd
  dsimp only at hh
  subst hh
  show wpAny _ _ (storeInOwnDict (.ref x) (.ref C) (.str name tk) name v b) _ _ _
  unfold storeInOwnDict ownDictForStores
  repeat (first | with_reducible refine PySem.OEX.store_in_old hns hw hz ?_ | with_reducible refine wpAny_loadPart_at hx ?_ | with_reducible refine hcls.at ?_ | wp_step)
  intro h' tk' hn' hs
  exact hq h' tk' (fun b o hb ho => (hs.2 b hb).trans ho) hn'
end
section
variable {X : Cx} {pins : List (Addr × Obj)} {σ : L2.St} {H : Hp} {s : Shared} {a C dx : Addr} {f : Str} {y : V} {u : Value} {fs : List (Str × V)} {Q : Unit → Shared → Prop} {E : Value → Shared → Prop} {A : Around} {B newId initId : String} {tl : List Value}
/-- self.f = y, the first one -/
theorem xst_new (T : XcOk X.K C B newId initId tl) (I : Inv X pins σ H s) (e : H a = some (exo a C none)) (hno : PySem.W.findIn X.K (.ref C) f = some none) (ry : RelV y u)
    (h : ∀ dx s', H dx = none → dx ≠ a → Inv X pins σ (upd (upd H dx (exd dx [(f, y)])) a (exo a C (some dx))) s' → Q () s') : wpAny (model X.prog X.w) A (setAttr (.ref a) f u) Q E s := by
  obtain ⟨t1, ho⟩ := exo_at I.hok e
  obtain ⟨hp, g, d, t, os⟩ := s
  refine PySem.W.set_plain I.kIn (ox := { cls := .ref C, dict := none, data := .fields #[.ref t1, .none, .none, .none, .bool false, .none] }) (od := none) ⟨ho, rfl, rfl, trivial⟩ T.sa ?_
  refine xosa_new T I.kIn ho hno (fun h' tk' dx k dn dne hx hn => ?_)
  have hnd : H dx = none := I.hok.fresh dn
  have nd : ∀ {b : Addr} {o : Obj}, hp.get? b = some o → b ≠ dx := fun {b o} q => Nat.ne_of_lt (Nat.lt_of_lt_of_le (Heap.lt_size q) dn)
  have na : ∀ {b : Addr}, H b = none → b ≠ a := fun {b} n z => by
    rw [z, e] at n
    cases n
  have Un1 : Un X.fs [] H (upd (upd H dx (exd dx [(f, y)])) a (exo a C (some dx))) hp h' := {
    keep := fun b o q n _ _ => k b o (na n) q
    slot := fun b o q n _ _ => ⟨o.slots, k b o (na n) q⟩
    free := fun b o q n _ => by rw [upd_ne (na n), upd_ne (nd q)]; exact n
    there := fun b o q _ => by
      by_cases hb : b = a
      · exact ⟨_, by rw [hb]; exact hx⟩
      · exact ⟨o, k b o hb q⟩
    tups := fun b xs q => by rw [upd_ne (at_ne e q exo_tup), upd_ne (ne_of_none q hnd)]; exact q
    frzs := fun b o v q => by rw [upd_ne (at_ne e q exo_frz), upd_ne (ne_of_none q hnd)]; exact q
    tbls := fun b ps q => ⟨#[], by rw [upd_ne (at_ne e q exo_tbl), upd_ne (ne_of_none q hnd), q]; simp⟩ }
  refine h dx _ hnd dne (I.un (t' := tk') Un1 fun b o q => ?_)
  by_cases hb : b = a
  · subst hb
    rw [upd_same] at q
    cases q
    exact exo_ok hx
  · rw [upd_ne hb] at q
    by_cases hd : b = dx
    · subst hd
      rw [upd_same] at q
      cases q
      exact exd_ok hn (relO_put (fs := []) ry fun g => True.intro)
    · rw [upd_ne hd] at q
      exact (I.hok b o q).stay (fun c v hc z => k c v (by
          rcases hc with hc | hc
          · rw [hc]
            exact hb
          · exact at_ne e hc exo_own) z)
        (fun c hc => by rw [upd_ne (at_ne e hc exo_own), upd_ne (ne_of_none hc hnd)]; exact hc) (fun c xs hc => by rw [upd_ne (at_ne e hc exo_tup), upd_ne (ne_of_none hc hnd)]; exact hc)
/-- self.f = y, a further one -/
theorem xst_old (T : XcOk X.K C B newId initId tl) (I : Inv X pins σ H s) (e : H a = some (exo a C (some dx))) (ed : H dx = some (exd dx fs)) (hl : fs.length ≤ 900) (hno : PySem.W.findIn X.K (.ref C) f = some none) (ry : RelV y u)
    (h : ∀ s', Inv X pins σ (upd H dx (exd dx ((f, y) :: fs))) s' → Q () s') : wpAny (model X.prog X.w) A (setAttr (.ref a) f u) Q E s := by
  obtain ⟨t1, ho⟩ := exo_at I.hok e
  obtain ⟨mA, hns, rel⟩ := exd_at I.hok ed
  have hw := within_of rel
  obtain ⟨hp, g, d, t, os⟩ := s
  obtain ⟨oD, _, _, hoD, _, _⟩ := hns.count hw
  refine PySem.W.set_plain I.kIn (ox := { cls := .ref C, dict := some dx, data := .fields #[.ref t1, .none, .none, .none, .bool false, .none] }) (od := some oD) ⟨ho, rfl, rfl, hoD⟩ T.sa ?_
  refine xosa_old T I.kIn ho hns hw (by rw [List.length_map]; omega) hno (fun h' tk' k hn => ?_)
  have hd : ∃ o, h'.get? dx = some o := by
    obtain ⟨o, _, _, e', _⟩ := hn
    exact ⟨o, e'⟩
  exact h _ (I.write (t' := tk') (x := dx) (e := dx) (o := exd dx ((f, y) :: fs)) (by rw [ed]; exact True.intro) (.inl rfl) k hd (exd_ok hn (relO_put ry rel)))
end
end Uw

namespace Uw
open PySem PySem.Spec PyProof.Rows L2
section
variable {X : Cx} {A : Ad} {Wx : WX} {G : GT} {L : Lv} {C : CC}
theorem snd_sup {k0 : Str} {fi0 : FnI} {sd : SD} {body : List Stmt} (hh : C.hot = false) (hst : X.stack = X.env :: X.outer) (hfr : X.env.frame = some X.env.locals) (a : Amb X A Wx G L C) (hp : PassesOwn (model X.prog X.w) X.A X.env X.xe) (sp : SupP X.prog X.K A G k0 fi0 sd)
    (hN : X.N = sd.N) (hsc : X.env.scope = sd.scope) (hfu : X.env.func = some (A.fa k0)) (hcode : X.env.code = .ref sd.cda) (hcl : X.env.cells.lookup ("__class__" : Str) = some sd.cc) :
    ∀ (n : Nat) (sts : List Stmt), PSsA X (.func body X.env) sts (canS (om X A) Wx (wS G L (cSup G n C sd.d sts)))
  | 0, sts => PSs.at pssw_bad
  | n + 1, [] => PSs.at pssw_nil
  | n + 1, st :: r => by
    have ih := snd_sup (body := body) hh hst hfr a hp sp hN hsc hfu hcode hcl n r
    unfold cSup
    cases e : supArgs st with
    | none =>
      have h1 : PSA X (.func body X.env) st (canS (om X A) Wx (wS G L (cS G n C st))) := PS.at ((sndS_all A G n L a (fun _ => hp) hst hfr).s st)
      have h := pssa_cons h1 ih
      exact h
    | some args =>
      obtain ⟨p0, p1, apos, pos, spos, rfl, hline, hst, h3⟩ := supArgs_ok e
      obtain ⟨nc, hrc, Fc⟩ := a.fc hh
      have h1 := psa_sup (body := body) (p0 := p0) (p1 := p1) (spos := spos) sp a.gf Fc hrc a.tk hN hsc hfu hcode hcl ((snd_all A G L n a).a args) (fun he σ H Q E h => by
        subst he
        cases n with
        | zero => exact False.elim h
        | succ m => exact h) hst h3 hline
      have h := pssa_cons h1 ih
      exact h
end
section
variable {P : Program} {w : World} {K : PySem.W.Frag} {mg : Str → Option Value} {base : Heap} {A : Ad} {G : GT}
theorem fn_sup1 {n : Nat} {L : Lv} {k : Str} {fi : FnI} {sd : SD} (hf : G.fn k = some fi) (gf : GF w K mg A G) (sp : SupP P K A G k fi sd) (hc : FnsOk P w K mg base A G (n + 2) L.c) (hi : FnsOk P w K mg base A G (n + 1) L.i) (hx : XiOk P w K mg base A G) (hL : L.x = none) :
    FnOk P w K mg base (L2.CX P w) (n + 3) (A.fa k) (A.fd k) fi.ps (spW ⟨K, A.fa, A.ca, w.params⟩ (fnW G L k)) := by
  rw [sp.fd]
  have un : ∀ {ws HW q e}, fnW G L k ws HW q e → ws.length = fi.ps.length ∧ wS G L fi.body (fnEnds q e) (ws.map some ++ List.replicate (fi.nv - ws.length) none) HW := fun {ws HW q e} z => by
    unfold fnW at z
    rw [hf] at z
    exact z
  have hpl : fi.ps.length + 1 ≤ sd.N.length := by
    have q := congrArg List.length sp.sco.pre
    rw [List.length_take, List.length_append] at q
    have : (["__class__"] : List Str).length = 1 := rfl
    omega
  refine ⟨fun vs H Q E ⟨ws, HW, q, e, r, _, z, _⟩ => by rw [← r.length]; exact (un z).1, fun A' outer s H args us vs Q E hr e0 hb rv ⟨ws, HW, q, e, r, rh, z, nn, xr⟩ => ?_⟩
  obtain ⟨hl, hw⟩ := un z
  have hvl : vs.length = fi.ps.length := by rw [← r.length]; exact hl
  have KX : K.In s.heap := e0.mod.kin.keeps fun b o e => (e0.bs b o e).1
  have lim : s.heap.NoLimit := e0.mod.nolimit.keeps fun b o e => (e0.bs b o e).1
  have look1 : ∀ {y : Str} {c : Addr}, ([(("__class__" : Str), sd.cc)] : List (Str × Addr)).lookup y = some c → y = "__class__" ∧ c = sd.cc := fun {y c} h => by
    rw [List.lookup_cons] at h
    cases hb : (y == ("__class__" : Str)) with
    | true => rw [hb] at h; cases h; exact ⟨by simpa using hb, rfl⟩
    | false => rw [hb] at h; cases h
  have CA : NdefX.CellsAt [(("__class__" : Str), sd.cc)]  ["__class__"] [none] s.heap H := by
    refine ⟨rfl, fun y c h => ?_, fun x y c h1 h2 => ?_, fun i y h => ?_⟩
    · obtain ⟨_, rfl⟩ := look1 h
      exact ⟨(e0.bs _ _ (e0.mod.kin _ _ sp.lcc)).2, _, ⟨_, KX _ _ sp.lcc, sp.dcc⟩⟩
    · rw [(look1 h1).1, (look1 h2).1]
    · cases i with
      | zero =>
        simp at h
        subst h
        exact ⟨sd.cc, rfl, fun v e => by simp at e⟩
      | succ i => simp at h
  let F : NdefX.NF := ⟨sd.name, sd.qual, sd.params, sd.body, sd.scope, cellsFrom (s.heap.objs.size + 1) sd.scope.names [] ++ [(("__class__" : Str), sd.cc)], sd.cda⟩
  have ncc : (cellsFrom (s.heap.objs.size + 1) sd.scope.names []).lookup ("__class__" : Str) = none := by
    cases h : (cellsFrom (s.heap.objs.size + 1) sd.scope.names []).lookup ("__class__" : Str) with
    | none => rfl
    | some c =>
      rcases cellsFrom_mem _ _ _ (PySem.mem_of_lookup h) with h | h
      · cases h
      · exact absurd (List.mem_singleton.mpr rfl) (sp.sco.ncl _ h rfl)
  have hcc : F.cl.lookup ("__class__" : Str) = some sd.cc := by
    show (cellsFrom (s.heap.objs.size + 1) sd.scope.names [] ++ [(("__class__" : Str), sd.cc)]).lookup ("__class__" : Str) = some sd.cc
    rw [look_app0 ncc]; rfl
  refine codeAny_call_function hr.depth (KX _ _ sp.lk) rfl sp.sco.co sp.sco.gen rfl (PySem.W.codeRec_of KX sp.code) (hb _ _ _ _ ?_)
  refine newEnvD sp.sco.kind (fun ⟨nm, v⟩ hy => (sp.sco.par nm (List.of_mem_zip hy).1).imp id fun q => ⟨q, Option.isSome_iff_exists.mpr (cell_has q)⟩) fun env he s1 x => ?_
  subst he
  refine ⟨lim.keeps x.toInCall.keep, ks_codeAny_funcAt ?_⟩
  have I : Inv (NdefX.ncx (L2.CX P w) P w K mg base sd.N F (A.fa k) A' outer s H E) [] (NdefX.startF sd.N vs [none]) H s1 := inv_startC (F := F) sp.sco hr.hd e0 hvl rv rfl rfl CA x
  have amb : Amb (NdefX.ncx (L2.CX P w) P w K mg base sd.N F (A.fa k) A' outer s H E) A (fun cls d _ H => E cls d H) G L ⟨sd.N, sd.scope, fun _ => false, none⟩ :=
    Amb.mk' gf (hr.deeper _) hc ⟨n + 1, hr.deeper _, hi⟩ (takes_of rfl rfl rfl rfl) rfl sp.sco.nd rfl rfl (fun _ h => by cases h) ⟨(hr.deeper _).mono (by omega), hx⟩ hL rfl
  have hp : PassesOwn (model P w) (NdefX.ncx (L2.CX P w) P w K mg base sd.N F (A.fa k) A' outer s H E).A (NdefX.ncx (L2.CX P w) P w K mg base sd.N F (A.fa k) A' outer s H E).env (NdefX.ncx (L2.CX P w) P w K mg base sd.N F (A.fa k) A' outer s H E).xe := passes_of rfl
  have S := snd_sup (body := sd.body) rfl rfl rfl amb hp sp rfl rfl rfl rfl hcc sd.fuel sd.body
  have hq : canS (om (NdefX.ncx (L2.CX P w) P w K mg base sd.N F (A.fa k) A' outer s H E) A) (fun cls d _ H => E cls d H) (wS G L (cSup G sd.fuel ⟨sd.N, sd.scope, fun _ => false, none⟩ sd.d sd.body)) { nx := fun _ H' => Q .non H', rt := Q } (NdefX.startF sd.N vs [none]) H := by
    rw [← sp.body]
    refine ⟨_, HW, _, ?_, rh, hw, fnEnds_ok nn xr⟩
    unfold NdefX.startF
    have e1 : ([none] : List (Option V)) ++ List.replicate (sd.N.length - vs.length - ([none] : List (Option V)).length) none = List.replicate (sd.N.length - vs.length) none := by
      have : sd.N.length - vs.length = (sd.N.length - vs.length - 1) + 1 := by omega
      rw [this, List.replicate_succ]; rfl
    rw [e1, sp.nv, r.length]
    exact relS_start _ r
  refine _root_.PySem.wpAt_mono (S [] _ _ H _ I hq) (fun fl s' hs => ?_) fun e s' hs => hs
  have fin : ∀ {σ' : L2.St} {H' : Hp} {v : V} {u : Value}, Inv (NdefX.ncx (L2.CX P w) P w K mg base sd.N F (A.fa k) A' outer s H E) [] σ' H' s' → L2.RelV v u → Q v H' → CE outer P w H s Q u s' :=
    fun {σ' H' v u} J rv q => ⟨v, H', J.os, J.bare, J.base, J.hok, rv, q⟩
  cases fl with
  | ret u =>
    obtain ⟨v, σ', H', J, rv, q⟩ := hs
    exact fin J rv q
  | next =>
    obtain ⟨σ', H', J, q⟩ := hs
    exact fin (v := V.non) (u := Value.none) J rfl q
  | brk =>
    obtain ⟨_, _, _, q⟩ := hs
    exact False.elim q
  | cont =>
    obtain ⟨_, _, _, q⟩ := hs
    exact False.elim q
/-- every def is of one kind or the other -/
def DefsOk (P : Program) (K : PySem.W.Frag) (A : Ad) (G : GT) : Prop := ∀ k fi, G.fn k = some fi → DefOk K A G k fi ∨ ∃ sd, SupP P K A G k fi sd
theorem semP_x {n : Nat} : (semP G n).x = none := by cases n <;> rfl
theorem fns_okS (gf : GF w K mg A G) (d : DefsOk P K A G) (hx : XiOk P w K mg base A G) : ∀ n, FnsOk P w K mg base A G (n + 2) (sem G n) ∧ FnsOk P w K mg base A G (n + 1) (semP G n).i
  | 0 => ⟨.none fun _ _ _ _ _ z => z, .none fun _ _ _ _ _ z => z⟩
  | n + 1 => by
    obtain ⟨h1, h2⟩ := fns_okS gf d hx n
    exact ⟨fun k fi hf => (d k fi hf).elim (fun d => fn_ok1 hf gf d h1 h2 hx semP_x) fun ⟨sd, sp⟩ => fn_sup1 hf gf sp h1 h2 hx semP_x, h1⟩
end
end Uw

namespace Uw
open PySem PySem.Spec PyProof.Rows L2
section
variable {X : Cx} {A : Ad} {G : GT} {C : Addr} {B newId initId : String} {tl : List Value}
/-- the bound __init__ of the built-in class is called -/
theorem call_mw {A' : Around} {E : Value → Shared → Prop} {pins : List (Addr × Obj)} {σ : L2.St} {H : Hp} {s : Shared} {u a : Addr} {rest : List Value} {Q : Value → Shared → Prop} (T : XcOk X.K C B newId initId tl) (I : Inv X pins σ H s) (e : H a = some (exo a C none)) (hu : s.heap.get? u = some (PySem.W.kxs_mw initId a)) (hl : rest.length ≤ sizeLine)
    (h : ∀ s', Inv X pins σ H s' → Q .none s') : wpAny (model X.prog X.w) A' (call (.ref u) rest) Q E s := by
  obtain ⟨nm, N', qn, bs, bm, hdct, sn, sub, ab, col, dd, k0, k1, k2, k3, k5, hC, hT⟩ := PySem.W.excInit_of I.kIn T.ini
  obtain ⟨t1, ho⟩ := exo_at I.hok e
  obtain ⟨hh, g, d, tk, os⟩ := s
  have fin : ∀ h', (∀ b o, b ≠ a → hh.get? b = some o → h'.get? b = some o) → h'.get? a = some (PySem.W.excObj C hh.objs.size none .none) → h'.get? hh.objs.size = some (PySem.W.excTup rest) → Q .none ⟨h', g, d, tk, os⟩ := fun h' k hx _ => by
    have J := I.write (t' := tk) (x := a) (e := a) (o := exo a C none) (by rw [e]; exact True.intro) (.inl rfl) k ⟨_, hx⟩ (exo_ok hx)
    have eu : upd H a (exo a C none) = H := by
      funext b
      by_cases hb : b = a
      · rw [hb, upd_same, e]
      · rw [upd_ne hb]
    rw [eu] at J
    exact h _ J
  refine wpAny_call (codeAny_of_tree ?_)
  show wpAny _ A'.in1 (callAny (.ref u) ⟨rest, []⟩) _ _ _
  simp only [callAny]
  refine wpAny_bind (wpAny_load hu ?_)
  simp only [PySem.W.kxs_mw, show (Value.type "method-wrapper" == Value.type "method" || Value.type "method-wrapper" == Value.type "builtin_function_or_method" || Value.type "method-wrapper" == Value.type "method-wrapper") = true by decide, if_true]
  refine PySem.W.KFB.if_so (by decide) ?_
  refine wpAny_bind (PySem.W.check_bound_init T.fb.toExcCallFacts hC ho rfl ?_)
  refine wpAny_bind (wpAny_pure (wpAny_pure ?_))
  refine ⟨plainId_quiet T.fb.init.plain _, codeAny_builtin T.fb.initEntry ?_⟩
  exact PySem.W.exc_init_tree (cls := .ref C) (t0 := t1) (dv := none) (c2 := .none) (c3 := .none) (b4 := .bool false) ho hl fin
theorem psa_supx {k0 : Str} {fi0 : FnI} {sd : SD} {c : Const} {ck : Nat} {cp : Pos} {v0 : V} {body : List Stmt} {p0 p1 apos pos spos : Pos} (sp : SupP X.prog X.K A G k0 fi0 sd) (T : XcOk X.K C B newId initId tl)
    (hsup : PySem.W.ks_superIn X.K C (A.ca sd.d) "__init__" = some (some (.builtin initId))) (hmro : PySem.W.mroIn X.K C (.ref (A.ca sd.d)) = some true) (hfre : X.mg "super" = none)
    (hN : X.N = sd.N) (hsc : X.env.scope = sd.scope) (hfu : X.env.func = some (A.fa k0)) (hcode : X.env.code = .ref sd.cda) (hcl : X.env.cells = [(("__class__" : Str), sd.cc)]) (hc : PE X (.Constant c ck cp) (tC v0)) (hline : (apos.endLine == pos.line) = true) :
    PSA X (.func body X.env) (.Expr (.Call (.Attribute (.Call (.Name "super" p0) [] [] p1) "__init__" apos) [.Constant c ck cp] [] pos) spos) (fun D σ H => ∃ a, σ[0]? = some (some (.ref a)) ∧ H a = some (exo a C none) ∧ D.nx σ H) := by
  intro pins s σ H D I ⟨x, e0, ei, h⟩
  obtain ⟨t1, ho⟩ := exo_at I.hok ei
  have hks : X.env.kindOf "super" = some .globalImplicit := by unfold Env.kindOf; rw [hsc]; exact sp.ksu
  have hkc : X.env.kindOf "__class__" = some .free := by unfold Env.kindOf; rw [hsc]; exact sp.kcl
  have hkl : X.env.kindOf sd.ar.arg = some .local := by unfold Env.kindOf; rw [hsc]; exact sp.slf
  obtain ⟨mb, b1, b2⟩ := I.mod.blt
  obtain ⟨m, hn, hl⟩ := I.loc
  obtain ⟨u, ru, lk⟩ := hl 0 sd.ar.arg _ (by rw [hN]; exact sp.self) e0 (.inl hkl)
  obtain rfl : u = Value.ref x := ru
  have hm : m sd.ar.arg = some (.ref x) := by
    rcases lk with ⟨_, q⟩ | ⟨q, _⟩
    · exact q
    · rw [hkl] at q; rcases q with q | q <;> cases q
  obtain ⟨oD, hD1, hD2⟩ : ∃ oD, s.heap.get? (A.ca sd.d) = some oD ∧ oD.data = .cls sd.cdD := by
    have hD := sp.clD
    unfold PySem.W.clsIn at hD
    split at hD
    · rename_i c d cd' sl ho
      cases hD
      exact ⟨_, I.kIn _ _ ho, rfl⟩
    · cases hD
  have hst : ([.Constant c ck cp] : List Expr).all noStar = true := rfl
  refine ks_wpAt_Expr_any (ks_wpAt_MethodCall (pl := (do return (← importBound (.Call (.Name "super" p0) [] [] p1) X.env).getD true)) ?_ (sup_eq (form_ok hst (by show 1 < 20; decide)) hline)) I.quiet (swap_ok rfl)
  obtain ⟨hh, g, d, t, os⟩ := s
  refine ks_wpAt_super_base hks hkc (by decide) hfu (I.kIn _ _ sp.lk) rfl sp.par hcode (I.kIn _ _ sp.lcd) sp.dcd sp.vcd sp.fil sp.top ?_
  refine PySem.W.ks_loadName_global I.ok.kind hks (Calls.loadGlobal_builtin (by rw [I.ok.glob]; exact I.mod.glob.keeps I.bk) hfre (by rw [I.ok.blt]; exact b1.keeps I.bk) ((b2 "super" (by decide)).trans (by decide +kernel)) ⟨rfl, ?_⟩)
  refine wpAny_loadName_free I.ok.kind hkc (by rw [hcl]; rfl) ⟨_, I.kIn _ _ sp.lcc, sp.dcc⟩ ?_
  refine wpAny_loadName_local I.ok.kind hkl hn hm ?_
  refine ks_wpAny_isType_cls hD1 hD2 ⟨rfl, ?_⟩
  refine ks_wpAny_call_super hD1 hD2 ho rfl (fun c e => by cases e) (PySem.W.looks_mroIn I.kIn hmro) fun h' hso kp => ?_
  have I1 : Inv X pins σ H ⟨h', g, d, t, os⟩ := I.kept (t' := t) kp
  cases hcc : PySem.W.clsIn X.K C with
  | none => unfold PySem.W.ks_superIn at hsup; rw [hcc] at hsup; cases hsup
  | some cd =>
  unfold PySem.W.ks_superIn at hsup
  rw [hcc] at hsup
  have hia : PySem.W.InstAt h' x (PySem.W.excObj C t1 none .none) C none := ⟨kp _ _ ho, rfl, rfl, trivial⟩
  have hI : PySem.W.Looks (model X.prog X.w) h' (isInstance (.ref x) (.type B)) true := hia.type.andThen (PySem.W.looks_subIn I1.kIn T.exB)
  refine PySem.W.kxs_getMethod T.kx hso (PySem.W.looks_opaque I1.kIn sp.opq) (l₀ := cd.mro) (fun A Q E s k q => wpAny_bind ((PySem.W.looks_clsIn I1.kIn hcc) A _ E s k (wpAny_pure q))) rfl I1.kIn hsup hI (PySem.W.ks_ne I1.kIn hia hcc) (by decide) ?_
  have kp2 : ∀ b u, h'.get? b = some u → (h'.push (PySem.W.kxs_mw initId x)).get? b = some u := fun b o e => Heap.get?_push_of_some _ e
  have I2 : Inv X pins σ H ⟨h'.push (PySem.W.kxs_mw initId x), g, d, t + 1, os⟩ := I1.kept (t' := t + 1) kp2
  have nq : H h'.objs.size = none := I1.hok.fresh (Nat.le_refl _)
  have hq : (h'.push (PySem.W.kxs_mw initId x)).get? h'.objs.size = some (PySem.W.kxs_mw initId x) := Heap.get?_push_at rfl rfl
  have I3 : Inv X (pins ++ [(h'.objs.size, PySem.W.kxs_mw initId x)]) σ H ⟨h'.push (PySem.W.kxs_mw initId x), g, d, t + 1, os⟩ := by
    refine I2.pins_of fun p hp => (List.mem_append.mp hp).elim (fun z => I2.pin p (List.mem_append_right _ z)) fun z => ?_
    rw [List.mem_singleton] at z
    subst z
    obtain ⟨f0, f1, f2, _⟩ := I1.fpOk (Nat.le_refl _) nq
    exact ⟨hq, f0, f1, f2, fun v e => by cases e⟩
  refine PySem.W.kxs_callWith (i := initId) (x := x) rfl (Calls.evalArgs_plain ?_)
  have ha : PA X [.Constant c ck cp] (tCons (tC v0) tNil) := pa_cons hc pa_nil
  refine wpAny_mono (ha.run pos _ _ σ H (fun vs H1 => vs = [v0] ∧ H1 = H) I3 ⟨rfl, rfl⟩) (fun us s3 hh3 => ?_) fun _ _ z => z
  obtain ⟨vs, H3, I4, rv, ev, eH⟩ := hh3
  subst ev
  subst eH
  have pm := (I4.pin (h'.objs.size, PySem.W.kxs_mw initId x) (List.mem_append_right _ (List.mem_append_right _ (List.mem_singleton.mpr rfl)))).1
  refine ⟨pm, call_mw T I4 ei pm (by rw [List.nil_append, ← rv.length]; show 1 ≤ sizeLine; decide) fun s' J => ⟨σ, H3, J.unpinned, h⟩⟩
/-! ### the stores -/
def tXst (C : Addr) (f : Str) (i : Nat) (nx : L2.St → Hp → Prop) : L2.St → Hp → Prop := fun σ H => ∃ a v, σ[0]? = some (some (.ref a)) ∧ σ[i + 1]? = some (some v) ∧
  ((H a = some (exo a C none) ∧ ∀ dx, H dx = none → dx ≠ a → nx σ (upd (upd H dx (exd dx [(f, v)])) a (exo a C (some dx)))) ∨
    ∃ (dx : Addr) (fs : List (Str × V)), H a = some (exo a C (some dx)) ∧ H dx = some (exd dx fs) ∧ fs.length ≤ 900 ∧ nx σ (upd H dx (exd dx ((f, v) :: fs))))
theorem ps_xst {f sn pn : Str} {i : Nat} {p1 p2 p3 pos : Pos} (T : XcOk X.K C B newId initId tl) (hno : PySem.W.findIn X.K (.ref C) f = some none) (hs0 : X.N[0]? = some sn) (hsv : Vis X.env.scope sn) (hs1 : (sn == ("__debug__" : Str)) = false) (hs2 : (sn == ("__classdict__" : Str)) = false)
    (hp0 : X.N[i + 1]? = some pn) (hpv : Vis X.env.scope pn) (hp1 : (pn == ("__debug__" : Str)) = false) (hp2 : (pn == ("__classdict__" : Str)) = false) :
    PS X (.Assign [.Attribute (.Name sn p1) f p2] (.Name pn p3) pos) (fun D σ H => tXst C f i D.nx σ H) := by
  refine ⟨fun pins s σ H D I h => ?_⟩
  obtain ⟨a, v, e0, e1, h⟩ := h
  refine plainObj_wpAny_Assign_Attribute (thn ((pe_var hp0 hpv hp1 hp2).run pins s σ H (fun y H1 => y = v ∧ H1 = H) I ⟨v, e1, rfl, rfl⟩) fun u s1 hh => ?_) rfl
  obtain ⟨y, H1, I1, r1, rfl, rfl⟩ := hh
  refine thn ((pe_var hs0 hsv hs1 hs2).run pins s1 σ H1 (fun y H2 => y = .ref a ∧ H2 = H1) I1 ⟨_, e0, rfl, rfl⟩) fun u' s2 hh => ?_
  obtain ⟨x, H2, I2, r2, rfl, rfl⟩ := hh
  obtain rfl : u' = Value.ref a := r2
  rcases h with ⟨ea, q⟩ | ⟨dx, fs, ea, ed, hl, q⟩
  · exact xst_new T I2 ea hno r1 fun dx s' n ne J => ⟨σ, _, J, q dx n ne⟩
  · exact xst_old T I2 ea ed hl hno r1 fun s' J => ⟨σ, _, J, q⟩
def tXs (C : Addr) : List (Str × Nat) → TS
  | [] => fun D σ H => D.nx σ H
  | (f, i) :: r => fun D σ H => tXst C f i (tXs C r D) σ H
/-- the stores of such an __init__ -/
def xiFl (Cc : CC) : List Stmt → Option (List (Str × Nat))
  | [] => some []
  | s :: r => (match s with
    | .Assign [.Attribute (.Name sn _) f _] (.Name pn _) _ => if slotOf sn Cc.N == some 0 && (okNm sn && (visB Cc sn && (okNm pn && visB Cc pn))) then (match slotOf pn Cc.N with
      | some (i + 1) => (match xiFl Cc r with
        | some l => some ((f, i) :: l)
        | none => none)
      | _ => none) else none
    | _ => none)
def xiB (Cc : CC) : List Stmt → Option (List (Str × Nat))
  | [] => none
  | s :: r => if noCellB Cc.sc = false then none else (match supArgs s with
    | some [.Constant (.str _) _ _] => xiFl Cc r
    | _ => none)
theorem visB_ok {Cc : CC} {x : Str} (hsc : X.env.scope = Cc.sc) (h : visB Cc x = true) : Vis X.env.scope x := by
  unfold visB at h
  unfold Vis
  rw [hsc]
  split at h <;> first | (rename_i e; rw [e]; simp; done) | cases h
theorem xiFl_ok {Cc : CC} (T : XcOk X.K C B newId initId tl) (hN : X.N = Cc.N) (hsc : X.env.scope = Cc.sc) : ∀ {sts : List Stmt} {fl : List (Str × Nat)}, xiFl Cc sts = some fl → (∀ f ∈ fl.map (·.1), PySem.W.findIn X.K (.ref C) f = some none) → PSs X sts (tXs C fl)
  | [], fl, h, _ => by cases h; exact pss_nil
  | s :: r, fl, h, hno => by
    unfold xiFl at h
    split at h
    · rename_i sn p1 f p2 pn p3 pos
      split at h
      · rename_i hc
        simp only [Bool.and_eq_true, beq_iff_eq] at hc
        obtain ⟨h1, h2, h3, h4, h5⟩ := hc
        split at h
        · rename_i i hi
          split at h
          · rename_i l hl
            cases h
            obtain ⟨a1, a2, _⟩ := okNm_ok h2
            obtain ⟨b1, b2, _⟩ := okNm_ok h4
            have q1 : PS X (.Assign [.Attribute (.Name sn p1) f p2] (.Name pn p3) pos) (fun D σ H => tXst C f i D.nx σ H) := ps_xst T (hno f (by simp)) (by rw [hN]; exact slotOf_ok h1) (visB_ok hsc h3) a1 a2 (by rw [hN]; exact slotOf_ok hi) (visB_ok hsc h5) b1 b2
            exact pss_cons q1 (xiFl_ok T hN hsc hl fun f' hf => hno f' (by rw [List.map_cons]; exact List.mem_cons_of_mem _ hf))
          · cases h
        · cases h
      · cases h
    · cases h
theorem tXs_old {D : Ends} {σ : L2.St} {a d : Addr} {rest : List V} {m : List (Option V)} (hσ : σ = some (.ref a) :: (rest.map some ++ m)) : ∀ {fl : List (Str × Nat)} {acc fs : List (Str × V)} {H : Hp}, H a = some (exo a C (some d)) → H d = some (exd d acc) → a ≠ d → fldsOf rest fl acc = some fs → acc.length + fl.length ≤ 900 →
    (∀ H', H' a = some (exo a C (some d)) → H' d = some (exd d fs) → (∀ b, b ≠ a → b ≠ d → H' b = H b) → D.nx σ H') → tXs C fl D σ H
  | [], acc, fs, H, ea, ed, ne, ef, hl, h => by cases ef; exact h H ea ed fun _ _ _ => rfl
  | (f, i) :: r, acc, fs, H, ea, ed, ne, ef, hl, h => by
    unfold fldsOf at ef
    cases ei : rest[i]? with
    | none => rw [ei] at ef; cases ef
    | some v =>
      rw [ei] at ef
      rw [List.length_cons] at hl
      have hlt : i < rest.length := (List.getElem?_eq_some_iff.mp ei).1
      refine ⟨a, v, by rw [hσ]; rfl, ?_, .inr ⟨d, acc, ea, ed, by omega, tXs_old hσ (by rw [upd_ne ne]; exact ea) upd_same ne ef (by rw [List.length_cons]; omega) fun H' h1 h2 h3 => h H' h1 h2 fun b hb1 hb2 => by rw [h3 b hb1 hb2, upd_ne hb2]⟩⟩
      rw [hσ, List.getElem?_cons_succ, List.getElem?_append_left (by rw [List.length_map]; exact hlt), List.getElem?_map, ei]; rfl
theorem tXs_new {D : Ends} {σ : L2.St} {a : Addr} {rest : List V} {m : List (Option V)} (hσ : σ = some (.ref a) :: (rest.map some ++ m)) {fl : List (Str × Nat)} {fs : List (Str × V)} {H : Hp} (ea : H a = some (exo a C none)) (hfl : fl ≠ []) (ef : fldsOf rest fl [] = some fs) (hl : fl.length ≤ 900)
    (h : ∀ d H', H d = none → d ≠ a → H' a = some (exo a C (some d)) → H' d = some (exd d fs) → (∀ b, b ≠ a → b ≠ d → H' b = H b) → D.nx σ H') : tXs C fl D σ H := by
  cases fl with
  | nil => exact absurd rfl hfl
  | cons p r =>
    obtain ⟨f, i⟩ := p
    unfold fldsOf at ef
    cases ei : rest[i]? with
    | none => rw [ei] at ef; cases ef
    | some v =>
      rw [ei] at ef
      rw [List.length_cons] at hl
      have hlt : i < rest.length := (List.getElem?_eq_some_iff.mp ei).1
      refine ⟨a, v, by rw [hσ]; rfl, ?_, .inl ⟨ea, fun dx hd ne => ?_⟩⟩
      · rw [hσ, List.getElem?_cons_succ, List.getElem?_append_left (by rw [List.length_map]; exact hlt), List.getElem?_map, ei]; rfl
      · refine tXs_old hσ upd_same (by rw [upd_ne ne]; exact upd_same) (Ne.symm ne) ef (by simp; omega) fun H' h1 h2 h3 => h dx H' hd ne h1 h2 fun b hb1 hb2 => ?_
        rw [h3 b hb1 hb2, upd_ne hb1, upd_ne hb2]
end
section
variable {P : Program} {w : World} {K : PySem.W.Frag} {mg : Str → Option Value} {base : Heap} {A : Ad} {G : GT}
/-- such an __init__ keeps its promise -/
theorem fn_xi {k : Str} {fi : FnI} {sd : SD} {C : Addr} {B newId initId : String} {tl : List Value} {fl : List (Str × Nat)} {n : Nat} (T : XcOk K C B newId initId tl) (sp : SupP P K A G k fi sd) (hb : xiB ⟨sd.N, sd.scope, fun _ => false, none⟩ sd.body = some fl) (hfl : fl ≠ []) (hln : fl.length ≤ 900) (hps : fi.ps.length = n + 1)
    (hno : ∀ f ∈ fl.map (·.1), PySem.W.findIn K (.ref C) f = some none) (hsup : PySem.W.ks_superIn K C (A.ca sd.d) "__init__" = some (some (.builtin initId))) (hmro : PySem.W.mroIn K C (.ref (A.ca sd.d)) = some true) (hfre : mg "super" = none) :
    FnOk P w K mg base (L2.CX P w) 1 (A.fa k) (A.fd k) fi.ps (spXi C n fl) := by
  rw [sp.fd]
  have hnc : noCellB sd.scope = true := by
    cases hbo : sd.body with
    | nil => rw [hbo] at hb; cases hb
    | cons s0 r0 =>
      rw [hbo] at hb
      cases e : noCellB sd.scope with
      | true => rfl
      | false =>
        replace hb : (if noCellB sd.scope = false then none else (match supArgs s0 with
          | some [.Constant (.str _) _ _] => xiFl ⟨sd.N, sd.scope, fun _ => false, none⟩ r0
          | _ => none)) = some fl := hb
        rw [if_pos e] at hb
        cases hb
  have sco := sp.sco.ns hnc
  have hpl : fi.ps.length + 1 ≤ sd.N.length := by
    have q := congrArg List.length sp.sco.pre
    rw [List.length_take, List.length_append] at q
    have : (["__class__"] : List Str).length = 1 := rfl
    omega
  refine ⟨fun vs H Q E ⟨a, rest, fs, ev, hl, _⟩ => by rw [ev, List.length_cons, hl, hps], fun A' outer s H args us vs Q E hr e0 hbd rv ⟨a, rest, fs, ev, hrl, ea, ef, hne, hq0⟩ => ?_⟩
  subst ev
  have hvl : (V.ref a :: rest).length = fi.ps.length := by rw [List.length_cons, hrl, hps]
  have KX : K.In s.heap := e0.mod.kin.keeps fun b o e => (e0.bs b o e).1
  have lim : s.heap.NoLimit := e0.mod.nolimit.keeps fun b o e => (e0.bs b o e).1
  have look1 : ∀ {y : Str} {c : Addr}, ([(("__class__" : Str), sd.cc)] : List (Str × Addr)).lookup y = some c → y = "__class__" ∧ c = sd.cc := fun {y c} h => by
    rw [List.lookup_cons] at h
    cases hb : (y == ("__class__" : Str)) with
    | true => rw [hb] at h; cases h; exact ⟨by simpa using hb, rfl⟩
    | false => rw [hb] at h; cases h
  have CA : NdefX.CellsAt sd.nf.cl ["__class__"] [none] s.heap H := by
    refine ⟨rfl, fun y c h => ?_, fun x y c h1 h2 => ?_, fun i y h => ?_⟩
    · obtain ⟨_, rfl⟩ := look1 h
      exact ⟨(e0.bs _ _ (e0.mod.kin _ _ sp.lcc)).2, _, ⟨_, KX _ _ sp.lcc, sp.dcc⟩⟩
    · rw [(look1 h1).1, (look1 h2).1]
    · cases i with
      | zero =>
        simp at h
        subst h
        exact ⟨sd.cc, rfl, fun v e => by simp at e⟩
      | succ i => simp at h
  refine ks_codeAny_call_defAt (fd := sd.fd) (body := sd.body) (binds := fi.ps.zip us) hr.depth (KX _ _ sp.lk) rfl lim (PySem.W.codeRec_of KX sp.code) rfl hbd sco.nocell (fun ⟨nm, v⟩ hy => sco.par nm (List.of_mem_zip hy).1) (fun h₁ hns kp => ?_) sp.sco.co sp.sco.gen sp.sco.kind
  have I : Inv (NdefX.ncx (L2.CX P w) P w K mg base sd.N sd.nf (A.fa k) A' outer s H E) [] (NdefX.startF sd.N (V.ref a :: rest) [none]) H { s with heap := h₁, toks := s.toks + (fi.ps.zip us).length } := NdefX.inv_startN sco hr.hd e0 hvl rv CA hns kp
  cases hbody : sd.body with
  | nil => rw [hbody] at hb; cases hb
  | cons s0 r0 =>
  rw [hbody] at hb
  replace hb : (match supArgs s0 with
    | some [.Constant (.str _) _ _] => xiFl ⟨sd.N, sd.scope, fun _ => false, none⟩ r0
    | _ => none) = some fl := by
    replace hb : (if noCellB sd.scope = false then none else (match supArgs s0 with
      | some [.Constant (.str _) _ _] => xiFl ⟨sd.N, sd.scope, fun _ => false, none⟩ r0
      | _ => none)) = some fl := hb
    rw [if_neg (by rw [hnc]; simp)] at hb
    exact hb
  split at hb
  · rename_i m ck cp hsa
    obtain ⟨p0, p1, apos, pos, spos, rfl, hline, hst, h3⟩ := supArgs_ok hsa
    have q1 := psa_supx (X := NdefX.ncx (L2.CX P w) P w K mg base sd.N sd.nf (A.fa k) A' outer s H E) (body := sd.body) (p0 := p0) (p1 := p1) (spos := spos) (ck := ck) (cp := cp) sp T hsup hmro hfre rfl rfl rfl rfl rfl (pe_str (x := m)) hline
    have q2 := xiFl_ok (X := NdefX.ncx (L2.CX P w) P w K mg base sd.N sd.nf (A.fa k) A' outer s H E) T rfl rfl hb hno
    rw [← hbody]
    rw [hbody] at q1 ⊢
    have hσ : NdefX.startF sd.N (V.ref a :: rest) [none] = some (.ref a) :: (rest.map some ++ ([none] ++ List.replicate (sd.N.length - (V.ref a :: rest).length - 1) none)) := by
      unfold NdefX.startF
      rfl
    refine _root_.PySem.wpAt_mono (Q := SP (NdefX.ncx (L2.CX P w) P w K mg base sd.N sd.nf (A.fa k) A' outer s H E) [] { nx := fun _ H' => Q .non H', rt := Q }) (E := (NdefX.ncx (L2.CX P w) P w K mg base sd.N sd.nf (A.fa k) A' outer s H E).xe) (ks_wpAt_execs_cons (_root_.PySem.wpAt_mono (q1 [] _ _ H { nx := fun σ' H' => tXs C fl { nx := fun _ H' => Q .non H', rt := Q } σ' H', rt := fun _ _ => False } I ⟨a, by rw [hσ]; rfl, ea, tXs_new hσ ea hfl ef hln fun d H' h1 h2 h3 h4 h5 => hq0 d H' h1 h2 h3 h4 h5⟩) (fun f s' hs => ?_) fun _ _ z => z)) (fun fl' s' hs => ?_) fun e s' hs => hs
    · cases f with
      | next =>
        obtain ⟨σ', H', I', q⟩ := hs
        exact _root_.PySem.wpAt_of_wpAny (q2.run [] s' σ' H' _ I' q)
      | ret _ => obtain ⟨_, _, _, _, _, q⟩ := hs; exact q.elim
      | brk => obtain ⟨_, _, _, q⟩ := hs; exact q.elim
      | cont => obtain ⟨_, _, _, q⟩ := hs; exact q.elim
    · have fin : ∀ {σ' : L2.St} {H' : Hp} {v : V} {u : Value}, Inv (NdefX.ncx (L2.CX P w) P w K mg base sd.N sd.nf (A.fa k) A' outer s H E) [] σ' H' s' → L2.RelV v u → Q v H' → CE outer P w H s Q u s' :=
        fun {σ' H' v u} J rv q => ⟨v, H', J.os, J.bare, J.base, J.hok, rv, q⟩
      cases fl' with
      | ret u =>
        obtain ⟨v, σ', H', J, rv, q⟩ := hs
        exact fin J rv q
      | next =>
        obtain ⟨σ', H', J, q⟩ := hs
        exact fin (v := V.non) (u := Value.none) J rfl q
      | brk =>
        obtain ⟨_, _, _, q⟩ := hs
        exact False.elim q
      | cont =>
        obtain ⟨_, _, _, q⟩ := hs
        exact False.elim q
  · cases hb
/-- what the text says of the exceptions' __init__ -/
def XiS (P : Program) (K : PySem.W.Frag) (A : Ad) (G : GT) : Prop := ∀ c xi k, G.exn c = some xi → xi.init = some k → xi.fl ≠ [] → ∃ fi sd, SupP P K A G k fi sd ∧ sd.d = xi.dc ∧ xiB ⟨sd.N, sd.scope, fun _ => false, none⟩ sd.body = some xi.fl ∧ xi.fl.length ≤ 900 ∧ fi.ps.length = xi.ar + 1 ∧
  ∀ (s : Shared) (us : List Value), K.In s.heap → us.length = fi.ps.length → BindsTo s (A.fd k) ⟨us, []⟩ (fi.ps.zip us)
theorem xi_ok (gf : GF w K mg A G) (h : XiS P K A G) : XiOk P w K mg base A G := fun c xi k ec hi hfl => by
  obtain ⟨fi, sd, sp, hd, hb, hl, hps, hbi⟩ := h c xi k ec hi hfl
  have ok := gf.exc c xi ec
  obtain ⟨⟨B, newId, initId, tl, T, hsup, hmro⟩, iC, tI⟩ := ok.own k hi hfl
  rw [← hd] at hsup hmro
  exact ⟨B, newId, initId, tl, A.fd k, fi.ps, xi.ar, T, ok.gl, iC, tI, fn_xi T sp hb hfl hl hps ok.fld hsup hmro (gf.fre _ sp.fsu), rfl, hbi⟩
end
end Uw

namespace Uw
open PySem PySem.Spec PyProof.Rows L2
/-! ### arguments by names -/
def All2 {α β : Type} (R : α → β → Prop) : List α → List β → Prop
  | [], l => l = []
  | a :: r, l => ∃ b q, l = b :: q ∧ R a b ∧ All2 R r q
/-- by keys -/
def AllK {α β : Type} (R : α → β → Prop) : List (Str × α) → List (Str × β) → Prop
  | [], l => l = []
  | (k, a) :: r, l => ∃ b q, l = (k, b) :: q ∧ R a b ∧ AllK R r q
section
variable {α β : Type} {R : α → β → Prop}
theorem All2.length : ∀ {l : List α} {m : List β}, All2 R l m → l.length = m.length
  | [], m, h => by rw [show m = [] from h]; rfl
  | a :: r, m, ⟨b, q, e, _, h⟩ => by rw [e, List.length_cons, List.length_cons, All2.length h]
theorem All2.append : ∀ {l l' : List α} {m m' : List β}, All2 R l m → All2 R l' m' → All2 R (l ++ l') (m ++ m')
  | [], l', m, m', h, h' => by rw [show m = [] from h]; exact h'
  | a :: r, l', m, m', ⟨b, q, e, x, h⟩, h' => by subst e; exact ⟨b, q ++ m', rfl, x, All2.append h h'⟩
theorem AllK.look {p : Str} : ∀ {l : List (Str × α)} {m : List (Str × β)}, AllK R l m → (l.lookup p = none ∧ m.lookup p = none) ∨ ∃ a b, l.lookup p = some a ∧ m.lookup p = some b ∧ R a b
  | [], m, h => by rw [show m = [] from h]; exact .inl ⟨rfl, rfl⟩
  | (k, a) :: r, m, ⟨b, q, e, x, h⟩ => by
    subst e
    rw [List.lookup_cons, List.lookup_cons]
    cases hb : (p == k) with
    | true => exact .inr ⟨a, b, rfl, rfl, x⟩
    | false => exact AllK.look h
theorem AllK.zip {ks : List Str} : ∀ {l : List α} {m : List β}, All2 R l m → AllK R (ks.zip l) (ks.zip m) := by
  induction ks with
  | nil => intro l m h; exact rfl
  | cons k ks ih =>
    intro l m h
    cases l with
    | nil => rw [show m = [] from h]; exact rfl
    | cons a r =>
      obtain ⟨b, q, rfl, x, h⟩ := h
      exact ⟨b, _, rfl, x, ih h⟩
theorem bindR_rel {d kz : List (Str × α)} {d' kz' : List (Str × β)} (hd : AllK R d d') (hk : AllK R kz kz') : ∀ {ps : List Str} {r : List α}, bindR d kz ps = some r → ∃ r', bindR d' kz' ps = some r' ∧ All2 R r r'
  | [], r, h => by cases h; exact ⟨[], rfl, rfl⟩
  | p :: ps, r, h => by
    unfold bindR at h ⊢
    cases e : bindR d kz ps with
    | none => rw [e] at h; cases h
    | some q =>
      rw [e] at h
      obtain ⟨q', e', hq⟩ := bindR_rel hd hk e
      rw [e']
      dsimp only at h ⊢
      rcases hk.look (p := p) with ⟨h1, h2⟩ | ⟨a, b, h1, h2, x⟩
      · rw [h1] at h; rw [h2]
        dsimp only at h ⊢
        rcases hd.look (p := p) with ⟨g1, g2⟩ | ⟨a, b, g1, g2, x⟩
        · rw [g1] at h; cases h
        · rw [g1] at h; rw [g2]
          cases h
          exact ⟨_, rfl, b, q', rfl, x, hq⟩
      · rw [h1] at h; rw [h2]
        cases h
        exact ⟨_, rfl, b, q', rfl, x, hq⟩
theorem bindG_rel {ps ks : List Str} {d : List (Str × α)} {d' : List (Str × β)} {ws zs r : List α} {ws' zs' : List β} (hd : AllK R d d') (hw : All2 R ws ws') (hz : All2 R zs zs') (h : bindG ps d ks ws zs = some r) : ∃ r', bindG ps d' ks ws' zs' = some r' ∧ All2 R r r' := by
  unfold bindG at h ⊢
  rw [← hw.length, ← hz.length]
  split at h
  · rename_i hl
    rw [if_pos hl]
    cases e : bindR d (ks.zip zs) (ps.drop ws.length) with
    | none => rw [e] at h; cases h
    | some q =>
      rw [e] at h
      cases h
      obtain ⟨q', e', hq⟩ := bindR_rel hd (AllK.zip (ks := ks) hz) e
      rw [e']
      exact ⟨_, rfl, hw.append hq⟩
  · cases h
end
theorem rw_all2 {Ω : Gd} {H : Hp} : ∀ {ws : List W} {vs : List V}, RelWs Ω H ws vs → All2 (RelW Ω H) ws vs
  | [], vs, h => h.inv_nil
  | w :: ws, vs, h => by
    obtain ⟨v, r, e, a, b⟩ := h.inv_cons
    exact ⟨v, r, e, a, rw_all2 b⟩
theorem all2_rw {Ω : Gd} {H : Hp} : ∀ {ws : List W} {vs : List V}, All2 (RelW Ω H) ws vs → RelWs Ω H ws vs
  | [], vs, h => by rw [show vs = [] from h]; exact .nil
  | w :: ws, vs, ⟨v, r, e, a, b⟩ => by subst e; exact .cons a (all2_rw b)
theorem v_all2 {vs : List V} {us : List Value} (h : Vals vs us) : All2 RelV vs us := by
  induction h with
  | nil => exact rfl
  | cons a r ih => exact ⟨_, _, rfl, a, ih⟩
theorem all2_v : ∀ {vs : List V} {us : List Value}, All2 RelV vs us → Vals vs us
  | [], us, h => by rw [show us = [] from h]; exact .nil
  | v :: vs, us, ⟨u, r, e, a, b⟩ => by subst e; exact .cons a (all2_v b)
/-- a shape of call -/
theorem sh_of {Ω : Gd} {fd : FuncData} {fi : FnI} {n : Nat} {ks : List Str} (dv : List (Str × V)) (du : List (Str × Value)) (hk : AllK RelV dv du) (hw : ∀ H, AllK (RelW Ω H) fi.dfl dv)
    (h : ∀ (s : Shared) (us zs : List Value), Ω.K.In s.heap → us.length = n → zs.length = ks.length → ∃ all, bindG fi.ps du ks us zs = some all ∧ BindsTo s fd ⟨us, ks.zip zs⟩ (fi.ps.zip all)) : ShOk Ω fd fi n ks := by
  intro s us zs X h1 h2
  obtain ⟨all, e, b⟩ := h s us zs X h1 h2
  refine ⟨all, b, fun H ws ws' vs vs' r rv rv' rw1 rw2 hb => ?_⟩
  obtain ⟨q, e1, a1⟩ := bindG_rel (hw H) (rw_all2 rw1) (rw_all2 rw2) hb
  obtain ⟨q', e2, a2⟩ := bindG_rel hk (v_all2 rv) (v_all2 rv') e1
  rw [e] at e2
  cases e2
  exact ⟨q, all2_v a2, all2_rw a1⟩
end Uw

namespace Uw
open PySem PySem.Spec PyProof.Rows L2
/-! ### a law's tables -/
structure Dn where
  fns : List (Str × FnI)
  ats : List (Str × (Str × Option Str))
  gls : List Str
  cls : List (Str × ClsI)
  cons : List (Str × W)
  free : List Str
  isa : List (Str × XC × Bool)
  sup : List (Str × Str × Str)
  exn : List (Str × ExI)
  exm : List (XC × XC × Bool)
  /-- dicts of the module: name, keys in order -/
  kds : List (Str × List Str) := []
def Dn.G (D : Dn) : GT where
  gl := fun k => D.gls.contains k
  mn := fun _ => false
  free := D.free
  fn := fun k => D.fns.lookup k
  cl := fun c => D.cls.lookup c
  con := fun x => D.cons.lookup x
  isa := fun c x => (D.isa.find? fun q => decide (q.1 = c) && decide (q.2.1 = x)).map (·.2.2)
  sup := fun c d m => if m = "__init__" then (D.sup.find? fun q => decide (q.1 = c) && decide (q.2.1 = d)).map (·.2.2) else none
  exn := fun c => D.exn.lookup c
  exm := fun x c => (D.exm.find? fun q => decide (q.1 = x) && decide (q.2.1 = c)).map (·.2.2)
def Dn.fa (D : Dn) (K : PySem.W.Frag) (k : Str) : Addr := match D.ats.lookup k with
  | some p => He.fAd K p
  | none => 0
def fdAt (K : PySem.W.Frag) (a : Addr) : FuncData := match K.lookup a with
  | some ⟨_, _, .func fd, _⟩ => fd
  | _ => default
def Dn.A (D : Dn) (K : PySem.W.Frag) : Ad := ⟨D.fa K, He.ga K, fun k => fdAt K (D.fa K k)⟩
/-! ### constants -/
/-- all keys are texts of the table -/
def kdB (K : PySem.W.Frag) (a : Addr) (tb : List (Str × W)) : Bool := match K.lookup a with
  | some ⟨_, _, .dict es _, _⟩ => es.toList.all fun e => match e.key with
    | .str x _ => (tb.lookup x).isSome && !e.refKey
    | _ => false
  | _ => false
theorem kdB_ok {K : PySem.W.Frag} {a : Addr} {tb : List (Str × W)} (h : kdB K a tb = true) {k : Str} (hk : tb.lookup k = none) : PySem.W.nsIn K a k = some none := by
  unfold kdB at h
  unfold PySem.W.nsIn
  split at h
  · rename_i c d es n sl e
    rw [e]
    dsimp only
    have f1 : es.toList.find? (·.key.isStr k) = none := by
      rw [List.find?_eq_none]
      intro x hx q
      have := List.all_eq_true.mp h x hx
      split at this
      · rename_i y t ey
        rw [ey] at q
        have e1 : y = k := by simpa [Value.isStr] using q
        rw [e1, hk] at this
        simp at this
      · cases this
    have f2 : es.toList.any (·.refKey) = false := by
      rw [List.any_eq_false]
      intro x hx
      have := List.all_eq_true.mp h x hx
      split at this
      · rename_i y t ey
        rw [Bool.and_eq_true] at this
        simpa using this.2
      · cases this
    rw [f1, f2]
    rfl
  · cases h
mutual
def conB (ks : List Str) (K : PySem.W.Frag) : W → Value → Bool
  | .non, .none => true
  | .bl b, .bool c => b == c
  | .int i, .int j _ => decide (i = j)
  | .str x, .str y _ => decide (x = y)
  | .tup ws, .ref a => (match K.lookup a with
    | some ⟨.type c, _, .seq its _, _⟩ => decide (c = "tuple") && (decide (its.size ≤ sizeLine) && conBs ks K ws its.toList)
    | _ => false)
  | .kdc x tb, .ref a => decide (a = He.ga K x) && (decide (x ∈ ks) && (kdB K a tb && conBk ks K a tb))
  | _, _ => false
def conBs (ks : List Str) (K : PySem.W.Frag) : List W → List Value → Bool
  | [], [] => true
  | w :: ws, u :: us => conB ks K w u && conBs ks K ws us
  | _, _ => false
def conBk (ks : List Str) (K : PySem.W.Frag) (a : Addr) : List (Str × W) → Bool
  | [] => true
  | (k, w) :: r => (match PySem.W.nsIn K a k with
    | some (some u) => conB ks K w u
    | _ => false) && conBk ks K a r
end
section
variable {Ω : Gd} {ks : List Str} (hca : Ω.ca = He.ga Ω.K) (hks : ∀ x ∈ ks, KdP Ω (He.ga Ω.K x))
include hca hks
mutual
theorem conB_ok : ∀ {w : W} {u : Value}, conB ks Ω.K w u = true → ∃ v, RelV v u ∧ ∀ H, RelW Ω H w v
  | .non, u, h => by
    cases u <;> first | (simp [conB] at h; done) | exact ⟨.non, rfl, fun _ => .non⟩
  | .bl b, u, h => by
    cases u <;> first | (simp [conB] at h; done) | skip
    simp [conB] at h; subst h
    exact ⟨.bl b, rfl, fun _ => .bl⟩
  | .int i, u, h => by
    cases u <;> first | (simp [conB] at h; done) | skip
    simp [conB] at h; subst h
    exact ⟨.int i, ⟨_, rfl⟩, fun _ => .int⟩
  | .str x, u, h => by
    cases u <;> first | (simp [conB] at h; done) | skip
    simp [conB] at h; subst h
    exact ⟨.str x, ⟨_, rfl⟩, fun _ => .str⟩
  | .tup ws, u, h => by
    cases u <;> first | (simp [conB] at h; done) | skip
    rename_i a
    unfold conB at h
    split at h
    · rename_i c od its n sl e
      obtain ⟨h1, h⟩ := He.ba h
      obtain ⟨h2, h3⟩ := He.ba h
      obtain ⟨vs, r1, r2⟩ := conBs_ok h3
      exact ⟨.ref a, rfl, fun H => .tup (.inr ⟨_, its, n, e, congrArg Value.type (of_decide_eq_true h1), rfl, of_decide_eq_true h2, r1⟩) (r2 H)⟩
    · cases h
  | .kdc x tb, u, h => by
    cases u <;> first | (simp [conB] at h; done) | skip
    rename_i a
    unfold conB at h
    obtain ⟨h1, h⟩ := He.ba h
    obtain ⟨h2, h⟩ := He.ba h
    obtain ⟨h3, h4⟩ := He.ba h
    have ea : a = He.ga Ω.K x := of_decide_eq_true h1
    subst ea
    refine ⟨.ref (He.ga Ω.K x), rfl, fun H => ?_⟩
    rw [RelW, hca]
    exact ⟨rfl, hks x (of_decide_eq_true h2), fun k hk => kdB_ok h3 hk, conBk_ok h4 H⟩
  | .ref _, u, h => by cases u <;> simp [conB] at h
  | .ty _, u, h => by cases u <;> simp [conB] at h
  | .fn _, u, h => by cases u <;> simp [conB] at h
  | .cls _, u, h => by cases u <;> simp [conB] at h
  | .scr _, u, h => by cases u <;> simp [conB] at h
theorem conBs_ok : ∀ {ws : List W} {us : List Value}, conBs ks Ω.K ws us = true → ∃ vs, Vals vs us ∧ ∀ H, RelWs Ω H ws vs
  | [], us, h => by
    cases us with
    | nil => exact ⟨[], .nil, fun _ => .nil⟩
    | cons _ _ => simp [conBs] at h
  | w :: ws, us, h => by
    cases us with
    | nil => simp [conBs] at h
    | cons u us =>
      unfold conBs at h
      obtain ⟨h1, h2⟩ := He.ba h
      obtain ⟨v, a1, a2⟩ := conB_ok h1
      obtain ⟨vs, b1, b2⟩ := conBs_ok h2
      exact ⟨v :: vs, .cons a1 b1, fun H => .cons (a2 H) (b2 H)⟩
theorem conBk_ok {a : Addr} : ∀ {tb : List (Str × W)}, conBk ks Ω.K a tb = true → ∀ H, RelWk Ω H a tb
  | [], _, H => by rw [RelWk]; trivial
  | (k, w) :: r, h, H => by
    unfold conBk at h
    obtain ⟨h1, h2⟩ := He.ba h
    rw [RelWk]
    refine ⟨?_, conBk_ok h2 H⟩
    split at h1
    · rename_i u e
      obtain ⟨v, a1, a2⟩ := conB_ok h1
      exact ⟨u, v, e, a1, a2 H⟩
    · cases h1
end
end
/-! ### the tables against the written part -/
def clsB0 (D : Dn) (K : PySem.W.Frag) (c : Str) (ci : ClsI) : Bool :=
  (He.Fa.glo c).ok K && ((He.Fa.cls c).ok K && ((PySem.W.makesIn K (He.ga K c) && (He.eqO (PySem.W.findIn K (.ref (He.ga K c)) "__init__") (some (some (.ref (D.fa K ci.init)))) && (PySem.W.isFn K (.ref (D.fa K ci.init)) && PySem.W.keepIn K (.ref (He.ga K c))))) &&
    ((ci.meth.all fun q => He.eqO (PySem.W.findIn K (.ref (He.ga K c)) q.1) (some (some (.ref (D.fa K q.2)))) && (PySem.W.isFn K (.ref (D.fa K q.2)) && PySem.W.keepIn K (.ref (D.fa K q.2)))) &&
    ((ci.flds.all fun f => He.eqO (PySem.W.findIn K (.ref (He.ga K c)) f) (some none)) &&
    (He.eqO (PySem.W.findIn K (.ref (He.ga K c)) "__class__") (some (some (.builtin "object.__class__"))) && (He.eqO (PySem.W.specialIn K (.builtin "object.__class__") "__get__") (some (some (.builtin "getset_descriptor.__get__"))) &&
    (decide (PySem.W.takesIn K (.builtin "object.__class__") = some true) && decide (PySem.W.mroIn K (He.ga K c) (.type "object") = some true))))))))
def rrB (K : PySem.W.Frag) (C : Addr) (r : Str) : Bool := match PySem.W.findIn K (.ref C) r with
  | some none => true
  | some (some (.ref _)) => true
  | _ => false
theorem rrB_ok {K : PySem.W.Frag} {C : Addr} {r : Str} (h : rrB K C r = true) : ∃ rc, PySem.W.findIn K (.ref C) r = some rc ∧ (rc = none ∨ ∃ g : Addr, rc = some (.ref g)) := by
  unfold rrB at h
  split at h
  · rename_i e; exact ⟨_, e, .inl rfl⟩
  · rename_i e; exact ⟨_, e, .inr ⟨_, rfl⟩⟩
  · cases h
/-- a class with operators -/
def oprB (K : PySem.W.Frag) (C : Addr) : Bool := PySem.W.selfFirst K C && (decide (PySem.W.subIn K (.ref C) (.type "int") = some false) && (decide (PySem.W.subIn K (.ref C) (.type "object") = some true) && (He.eqO (PySem.W.findIn K (.ref C) "__ne__") (some (some (.builtin "object.__ne__"))) &&
  (["__radd__", "__rmul__", "__rpow__", "__ror__"] : List Str).all fun r => rrB K C r)))
theorem oprB_ok {K : PySem.W.Frag} {C : Addr} (h : oprB K C = true) : OprOk K C := by
  obtain ⟨h1, h⟩ := He.ba h
  obtain ⟨h2, h⟩ := He.ba h
  obtain ⟨h3, h⟩ := He.ba h
  obtain ⟨h4, h5⟩ := He.ba h
  exact ⟨h1, of_decide_eq_true h2, of_decide_eq_true h3, He.eqO_ok h4, fun r hr => rrB_ok (List.all_eq_true.mp h5 r hr)⟩
def clsB (D : Dn) (K : PySem.W.Frag) (c : Str) (ci : ClsI) : Bool := clsB0 D K c ci && ((!(ci.meth.any fun q => opNm q.1)) || oprB K (He.ga K c))
theorem clsB_opr {D : Dn} {K : PySem.W.Frag} {c : Str} {ci : ClsI} (h : clsB D K c ci = true) {m k : Str} (hm : ci.meth.lookup m = some k) (ho : opNm m = true) : OprOk K (He.ga K c) := by
  obtain ⟨_, h⟩ := He.ba h
  have : (ci.meth.any fun q => opNm q.1) = true := List.any_eq_true.mpr ⟨_, PySem.mem_of_lookup hm, ho⟩
  rw [this] at h
  exact oprB_ok (by simpa using h)
def Dn.xv (K : PySem.W.Frag) : XC → Value
  | .own c => .ref (He.ga K c)
  | .blt n => .type n
def exnB0 (K : PySem.W.Frag) (c : Str) (xi : ExI) : Bool := (He.Fa.glo c).ok K && (PySem.W.keepIn K (.ref (He.ga K c)) && (decide (PySem.W.subIn K (.ref (He.ga K c)) (.type "BaseException") = some true) && (decide (PySem.W.typeIn K (.ref (He.ga K c)) = some (.type "type")) && (match xi.init with
  | none => (decide (xi.base = "ValueError") && PySem.W.excIn K (He.ga K c) PySem.HandSPX.veTail "ValueError.__new__") || (decide (xi.base = "LookupError") && PySem.W.excIn K (He.ga K c) leTail "LookupError.__new__")
  | some _ => true))))
def xfoB (K : PySem.W.Frag) (C : Addr) : Bool := xfB K C && (He.eqO (PySem.W.findIn K (.ref C) "__class__") (some (some (.builtin "object.__class__"))) && (He.eqO (PySem.W.specialIn K (.builtin "object.__class__") "__get__") (some (some (.builtin "getset_descriptor.__get__"))) &&
    (decide (PySem.W.takesIn K (.builtin "object.__class__") = some true) && decide (PySem.W.mroIn K C (.type "object") = some true))))
theorem xfoB_ok {K : PySem.W.Frag} {C : Addr} (h : xfoB K C = true) : XfOk K C := by
  obtain ⟨h0, h⟩ := He.ba h
  obtain ⟨h1, h⟩ := He.ba h
  obtain ⟨h2, h⟩ := He.ba h
  obtain ⟨h3, h4⟩ := He.ba h
  have x := xfB_ok h0
  exact ⟨x.ga, x.gg, x.exC, x.hdC, He.eqO_ok h1, He.eqO_ok h2, of_decide_eq_true h3, of_decide_eq_true h4⟩
def xcB (K : PySem.W.Frag) (C : Addr) (B newId : String) (tl : List Value) : Bool := PySem.W.excInitIn K C tl newId && (PySem.W.excOver K C tl && (PySem.W.hasDictIn K C && (He.eqO (PySem.W.findIn K (.ref C) "__setattr__") (some (some (.builtin "object.__setattr__"))) && decide (PySem.W.subIn K (.ref C) (.type B) = some true))))
theorem xcB_ok {K : PySem.W.Frag} {C : Addr} {B newId initId : String} {tl : List Value} (fb : ExcBaseFacts B newId initId tl) (sf : StoreFacts B tl "object.__setattr__" "object") (kx : PySem.W.KxsFacts B initId) (exC : PySem.W.subIn K (.ref C) (.type "BaseException") = some true) (tyC : PySem.W.typeIn K (.ref C) = some (.type "type")) (kC : PySem.W.keepIn K (.ref C) = true)
    (h : xcB K C B newId tl = true) : XcOk K C B newId initId tl := by
  obtain ⟨h0, h⟩ := He.ba h
  obtain ⟨h1, h⟩ := He.ba h
  obtain ⟨h2, h⟩ := He.ba h
  obtain ⟨h3, h4⟩ := He.ba h
  exact ⟨fb, sf, kx, h0, h1, h2, He.eqO_ok h3, exC, of_decide_eq_true h4, tyC, kC⟩
def xiIn (D : Dn) (K : PySem.W.Frag) (c : Str) (xi : ExI) (k : Str) : Bool := ((decide (xi.base = "ValueError") && (xcB K (He.ga K c) "ValueError" "ValueError.__new__" PySem.HandSPX.veTail && He.eqO (PySem.W.ks_superIn K (He.ga K c) (He.ga K xi.dc) "__init__") (some (some (.builtin "ValueError.__init__"))))) ||
    (decide (xi.base = "LookupError") && (xcB K (He.ga K c) "LookupError" "LookupError.__new__" leTail && He.eqO (PySem.W.ks_superIn K (He.ga K c) (He.ga K xi.dc) "__init__") (some (some (.builtin "LookupError.__init__")))))) &&
  (decide (PySem.W.mroIn K (He.ga K c) (.ref (He.ga K xi.dc)) = some true) && (He.eqO (PySem.W.findIn K (.ref (He.ga K c)) "__init__") (some (some (.ref (D.fa K k)))) && decide (PySem.W.typeIn K (.ref (D.fa K k)) = some (.type "function"))))
def exnB (D : Dn) (K : PySem.W.Frag) (c : Str) (xi : ExI) : Bool := xfoB K (He.ga K c) && ((xi.fl.all fun q => He.eqO (PySem.W.findIn K (.ref (He.ga K c)) q.1) (some none)) && ((match xi.init with
  | none => true
  | some k => xi.fl.isEmpty || xiIn D K c xi k) && exnB0 K c xi))
def Dn.ok (D : Dn) (K : PySem.W.Frag) : Bool := He.eqO (PySem.W.nsIn K cStatics "sys.int_max_str_digits") (some none) && (
  (D.exm.all fun q => decide (PySem.W.exmOne K (Dn.xv K q.1) (Dn.xv K q.2.1) = some q.2.2)) && ((D.exn.all fun q => exnB D K q.1 q.2) && (
  (D.fns.all fun q => PySem.W.keepIn K (.ref (D.fa K q.1))) && ((D.gls.all fun k => He.eqO (PySem.W.nsIn K mainGlobals k) (some (some (.ref (D.fa K k))))) && ((D.cons.all fun q => match PySem.W.nsIn K mainGlobals q.1 with
    | some (some u) => conB (D.kds.map (·.1)) K q.2 u
    | _ => false) && ((D.cls.all fun q => clsB D K q.1 q.2) && ((D.free.all fun x => (He.Fa.free x).ok K) && (D.isa.all fun q => decide (PySem.W.kitOne K (.ref (He.ga K q.1)) (Dn.xv K q.2.1) = some q.2.2)))))))))
section
variable {D : Dn} {K : PySem.W.Frag} {h : Heap} {mg : Str → Option Value}
theorem Dn.gf {w : World} (hks : ∀ x ∈ D.kds.map (·.1), KdP ⟨K, (D.A K).fa, (D.A K).ca, w.params⟩ (He.ga K x)) (X : K.In h) (N : h.Ns mainGlobals mg) (c : D.ok K = true) (shp : ∀ k fi, D.G.fn k = some fi → ∀ n ks, (n, ks) ∈ fi.sh → ShOk ⟨K, (D.A K).fa, (D.A K).ca, w.params⟩ ((D.A K).fd k) fi n ks) : GF w K mg (D.A K) D.G := by
  obtain ⟨cd, c⟩ := He.ba c
  obtain ⟨cm, c⟩ := He.ba c
  obtain ⟨c0, c⟩ := He.ba c
  obtain ⟨c1, c⟩ := He.ba c
  obtain ⟨c2, c⟩ := He.ba c
  obtain ⟨c3, c⟩ := He.ba c
  obtain ⟨c4, c⟩ := He.ba c
  obtain ⟨c5, c6⟩ := He.ba c
  have clF : ∀ {k : Str} {ci : ClsI}, D.G.cl k = some ci → clsB D K k ci = true := fun {k ci} e => List.all_eq_true.mp c4 (k, ci) (PySem.mem_of_lookup e)
  have cl : ∀ {k : Str} {ci : ClsI}, D.G.cl k = some ci → clsB0 D K k ci = true := fun {k ci} e => (He.ba (clF e)).1
  refine ⟨He.eqO_ok cd, fun k fi e => List.all_eq_true.mp c1 (k, fi) (PySem.mem_of_lookup e), shp, fun k e => ?_, fun x wc e => ?_, fun k ci e => ?_, fun k ci e => ?_, fun k ci e m f em => ?_, fun k ci e f hf => ?_, fun k ci m kk e em eo => clsB_opr (clF e) em eo, fun x hx => ?_, fun k ci x b e eb => ?_, fun k ci e => ?_, fun k xi e => ?_, fun k xi x b e eb => ?_, fun x c b e => ?_⟩
  · have hk : k ∈ D.gls := by simpa [Dn.G] using e
    exact PySem.W.mg_of X N (He.eqO_ok (List.all_eq_true.mp c2 k hk))
  · have q := List.all_eq_true.mp c3 (x, wc) (PySem.mem_of_lookup e)
    dsimp only at q
    split at q
    · rename_i u en
      obtain ⟨v, r1, r2⟩ := conB_ok (Ω := ⟨K, (D.A K).fa, (D.A K).ca, w.params⟩) rfl hks q
      exact ⟨u, v, PySem.W.mg_of X N en, r1, r2⟩
    · cases q
  · exact He.glo_ok X N (He.ba (cl e)).1
  · obtain ⟨_, q⟩ := He.ba (cl e)
    obtain ⟨q1, q⟩ := He.ba q
    obtain ⟨q2, q⟩ := He.ba q
    obtain ⟨m1, q2⟩ := He.ba q2
    obtain ⟨m2, q2⟩ := He.ba q2
    obtain ⟨m3, m4⟩ := He.ba q2
    exact ⟨He.cls_ok q1, ⟨m1, He.eqO_ok m2, m3, m4⟩⟩
  · obtain ⟨_, q⟩ := He.ba (cl e)
    obtain ⟨_, q⟩ := He.ba q
    obtain ⟨_, q⟩ := He.ba q
    obtain ⟨q1, q⟩ := He.ba q
    obtain ⟨m1, m⟩ := He.ba (List.all_eq_true.mp q1 (m, f) (PySem.mem_of_lookup em))
    obtain ⟨m2, m3⟩ := He.ba m
    exact ⟨He.eqO_ok m1, m2, m3⟩
  · obtain ⟨_, q⟩ := He.ba (cl e)
    obtain ⟨_, q⟩ := He.ba q
    obtain ⟨_, q⟩ := He.ba q
    obtain ⟨_, q⟩ := He.ba q
    obtain ⟨q1, q⟩ := He.ba q
    exact He.eqO_ok (List.all_eq_true.mp q1 f hf)
  · exact He.free_ok X N (List.all_eq_true.mp c5 x hx)
  · have eb' : (D.isa.find? fun q => decide (q.1 = k) && decide (q.2.1 = x)).map (·.2.2) = some b := eb
    cases ef : (D.isa.find? fun q => decide (q.1 = k) && decide (q.2.1 = x)) with
    | none => rw [ef] at eb'; cases eb'
    | some q =>
      rw [ef] at eb'
      cases eb'
      have q1 := List.find?_some ef
      simp only [Bool.and_eq_true, decide_eq_true_eq] at q1
      have q2 := of_decide_eq_true (List.all_eq_true.mp c6 q (List.mem_of_find?_eq_some ef))
      obtain ⟨qa, qb, qc⟩ := q
      obtain ⟨rfl, rfl⟩ := q1
      cases qb <;> exact q2
  · obtain ⟨_, q⟩ := He.ba (cl e)
    obtain ⟨_, q⟩ := He.ba q
    obtain ⟨_, q⟩ := He.ba q
    obtain ⟨_, q⟩ := He.ba q
    obtain ⟨_, q⟩ := He.ba q
    obtain ⟨q1, q⟩ := He.ba q
    obtain ⟨q2, q⟩ := He.ba q
    obtain ⟨q3, q4⟩ := He.ba q
    exact ⟨He.eqO_ok q1, He.eqO_ok q2, of_decide_eq_true q3, of_decide_eq_true q4⟩
  · obtain ⟨x1, q⟩ := He.ba (List.all_eq_true.mp c0 (k, xi) (PySem.mem_of_lookup e))
    obtain ⟨x2, q⟩ := He.ba q
    obtain ⟨x3, q⟩ := He.ba q
    obtain ⟨q1, q⟩ := He.ba q
    obtain ⟨q2, q⟩ := He.ba q
    obtain ⟨q3, q⟩ := He.ba q
    obtain ⟨q4, q5⟩ := He.ba q
    refine ⟨He.glo_ok X N q1, q2, of_decide_eq_true q3, of_decide_eq_true q4, fun hi => ?_, xfoB_ok x1, fun f hf => ?_, fun k0 hi hfl => ?_⟩
    rotate_left
    · obtain ⟨q', hq, rfl⟩ := List.mem_map.mp hf
      exact He.eqO_ok (List.all_eq_true.mp x2 q' hq)
    · dsimp only at x3
      rw [hi] at x3
      dsimp only at x3
      rw [Bool.or_eq_true] at x3
      rcases x3 with x3 | x3
      · exact absurd (List.isEmpty_iff.mp x3) hfl
      · obtain ⟨y1, y⟩ := He.ba x3
        obtain ⟨y2, y⟩ := He.ba y
        obtain ⟨y3, y4⟩ := He.ba y
        refine ⟨?_, He.eqO_ok y3, of_decide_eq_true y4⟩
        rw [Bool.or_eq_true] at y1
        rcases y1 with y1 | y1
        · obtain ⟨_, z⟩ := He.ba y1
          obtain ⟨z1, z2⟩ := He.ba z
          exact ⟨_, _, _, _, xcB_ok F.excBase_ValueError F.store_ValueError PySem.W.kxs_ValueError (of_decide_eq_true q3) (of_decide_eq_true q4) q2 z1, He.eqO_ok z2, of_decide_eq_true y2⟩
        · obtain ⟨_, z⟩ := He.ba y1
          obtain ⟨z1, z2⟩ := He.ba z
          exact ⟨_, _, _, _, xcB_ok F.excBase_LookupError F.store_LookupError PySem.W.kxs_LookupError (of_decide_eq_true q3) (of_decide_eq_true q4) q2 z1, He.eqO_ok z2, of_decide_eq_true y2⟩
    dsimp only at q5
    rw [hi] at q5
    simp only [Bool.or_eq_true] at q5
    rcases q5 with q5 | q5
    · obtain ⟨a, b⟩ := He.ba q5
      exact .inl ⟨of_decide_eq_true a, b⟩
    · obtain ⟨a, b⟩ := He.ba q5
      exact .inr ⟨of_decide_eq_true a, b⟩
  · have eb' : (D.isa.find? fun q => decide (q.1 = k) && decide (q.2.1 = x)).map (·.2.2) = some b := eb
    cases ef : (D.isa.find? fun q => decide (q.1 = k) && decide (q.2.1 = x)) with
    | none => rw [ef] at eb'; cases eb'
    | some q =>
      rw [ef] at eb'
      cases eb'
      have q1 := List.find?_some ef
      simp only [Bool.and_eq_true, decide_eq_true_eq] at q1
      have q2 := of_decide_eq_true (List.all_eq_true.mp c6 q (List.mem_of_find?_eq_some ef))
      obtain ⟨qa, qb, qc⟩ := q
      obtain ⟨rfl, rfl⟩ := q1
      cases qb <;> exact q2
  · have eb' : (D.exm.find? fun q => decide (q.1 = x) && decide (q.2.1 = c)).map (·.2.2) = some b := e
    cases ef : (D.exm.find? fun q => decide (q.1 = x) && decide (q.2.1 = c)) with
    | none => rw [ef] at eb'; cases eb'
    | some q =>
      rw [ef] at eb'
      cases eb'
      have q1 := List.find?_some ef
      simp only [Bool.and_eq_true, decide_eq_true_eq] at q1
      have q2 := of_decide_eq_true (List.all_eq_true.mp cm q (List.mem_of_find?_eq_some ef))
      obtain ⟨qa, qb, qc⟩ := q
      obtain ⟨rfl, rfl⟩ := q1
      cases qa <;> cases qb <;> exact q2
end
end Uw

namespace Uw
open PySem PySem.Spec PyProof.Rows L2
/-! ### defs: the words, the slots, the class of a __class__ cell -/
structure DU where
  key : Str
  d : He.DefD
  sup : Option Str := none
  N : List Str
  fuel : Nat := 400
abbrev FnS : Type := Option (Str × Str × Arguments × FuncBody × Scope × Addr × List Str × Addr)
def fnS (K : PySem.W.Frag) (p : Str × Option Str) : FnS := match K.lookup (He.fAd K p) with
  | some ⟨_, _, .func fd, _⟩ => some (fd.name, fd.qualname, fd.params, fd.body, fd.scope, fd.globals, fd.closure.map (·.1), fd.builtins)
  | _ => none
def DU.cn (u : DU) : List Str := match u.sup with
  | none => []
  | some _ => ["__class__"]
def DU.val (u : DU) : FnS := some (u.d.name, u.d.qual, u.d.params, .stmts u.d.body, u.d.scope, mainGlobals, u.cn, builtinsNs)
/-- the cell, the code's file -/
def cellB (K : PySem.W.Frag) (fd : FuncData) (c : Str) : Bool := match fd.closure with
  | [(_, cc)] => (match K.lookup cc with
    | some ⟨_, _, .cell (some (.ref a)), _⟩ => decide (a = He.ga K c)
    | _ => false)
  | _ => false
def fileB (K : PySem.W.Frag) (fd : FuncData) (file : Str) : Bool := match fd.code with
  | .ref cda => (match K.lookup cda with
    | some ⟨_, _, .fields vs, _⟩ => (match (vs[2]? : Option Value) with
      | some (.str f _) => file == f
      | _ => false)
    | _ => false)
  | _ => false
def supB (K : PySem.W.Frag) (fd : FuncData) (c : Str) (file : Str) : Bool := cellB K fd c && (fileB K fd file && (PySem.W.clsIn K (He.ga K c)).isSome)
def DU.ok (K : PySem.W.Frag) (file : Str) (u : DU) : Bool := match K.lookup (He.fAd K u.d.at_) with
  | some ⟨_, _, .func fd, _⟩ => PySem.W.codeIn K fd.code u.d.qual && (He.dflB K fd.defaults (u.d.dvs K) && (He.kwdB K fd.kwdefaults (u.d.kws K) && (match u.sup with
    | none => true
    | some c => supB K fd c file)))
  | _ => false
/-- what is known of a def's object -/
structure FunU (K : PySem.W.Frag) (u : DU) (file : Str) (f : Addr) (cl : List (Str × Addr)) (dV kV doc pm : Value) (an : Option Addr) (cdv ct : Value) : Prop where
  lk : ∃ oc od osl, K.lookup f = some ⟨oc, od, .func (PySem.W.fnX u.d.name u.d.qual u.d.params u.d.body u.d.scope cl dV kV doc pm an cdv ct), osl⟩
  code : PySem.W.codeIn K cdv u.d.qual = true
  dfl : DflV K dV (u.d.dvs K)
  kwd : KwdV K kV (u.d.kws K)
  cn : cl.map (·.1) = u.cn
  sup : ∀ c, u.sup = some c → supB K (PySem.W.fnX u.d.name u.d.qual u.d.params u.d.body u.d.scope cl dV kV doc pm an cdv ct) c file = true
theorem DU.fun {K : PySem.W.Frag} {u : DU} {file : Str} (e : fnS K u.d.at_ = u.val) (c : u.ok K file = true) : ∃ cl dV kV doc pm an cdv ct, FunU K u file (He.fAd K u.d.at_) cl dV kV doc pm an cdv ct := by
  unfold fnS at e
  unfold DU.ok at c
  cases q : K.lookup (He.fAd K u.d.at_) with
  | none => rw [q] at c; cases c
  | some o =>
    obtain ⟨oc, od, dt, osl⟩ := o
    rw [q] at c e
    cases dt with
    | func fd =>
      obtain ⟨n1, n2, n3, n4, n5, n6, n7, n8, n9, n10, n11, n12, n13, n14, n15⟩ := fd
      have e2 : (some (n1, n2, n3, n4, n5, n6, n7.map (·.1), n15) : FnS) = some (u.d.name, u.d.qual, u.d.params, .stmts u.d.body, u.d.scope, mainGlobals, u.cn, builtinsNs) := e
      simp only [Option.some.injEq, Prod.mk.injEq] at e2
      obtain ⟨h1, h2, h3, h4, h5, h6, h7, h8⟩ := e2
      subst h1 h2 h3 h4 h5 h6 h8
      obtain ⟨k1, c⟩ := He.ba c
      obtain ⟨k2, c⟩ := He.ba c
      obtain ⟨k3, k4⟩ := He.ba c
      refine ⟨n7, n8, n9, n10, n11, n12, n13, n14, ⟨_, _, _, q⟩, k1, He.dflB_ok k2, He.kwdB_ok k3, h7, fun cn hc => ?_⟩
      rw [hc] at k4
      exact k4
    | _ => cases c
section
variable {P : Program} {D : Dn} {K : PySem.W.Frag} {u : DU} {file : Str} {fi : FnI} {cl : List (Str × Addr)} {dV kV doc pm : Value} {an : Option Addr} {cdv ct : Value}
theorem fdAt_eq {f : Addr} {fd : FuncData} {oc : Value} {od : Option Addr} {osl : Array (Option Value)} (e : K.lookup f = some ⟨oc, od, .func fd, osl⟩) : fdAt K f = fd := by
  unfold fdAt
  rw [e]
/-- an ordinary def -/
theorem FunU.plain (F : FunU K u file (He.fAd K u.d.at_) cl dV kV doc pm an cdv ct) (hs : u.sup = none) (hat : D.ats.lookup u.key = some u.d.at_) (S : FnScope u.N fi.ps u.d.scope) (hnv : fi.nv = u.N.length) (hb : fi.body = cSs D.G u.fuel ⟨u.N, u.d.scope, fun _ => true, none⟩ u.d.body) : DefOk K (D.A K) D.G u.key fi := by
  obtain ⟨oc, od, osl, lk⟩ := F.lk
  have hcl : cl = [] := by
    have := F.cn
    unfold DU.cn at this
    rw [hs] at this
    exact List.map_eq_nil_iff.mp this
  subst hcl
  have hfa : D.fa K u.key = He.fAd K u.d.at_ := by unfold Dn.fa; rw [hat]
  have lk' : K.lookup (D.fa K u.key) = some ⟨oc, od, .func (PySem.W.fnOf u.d.name u.d.qual u.d.params u.d.body u.d.scope dV kV doc pm an cdv ct), osl⟩ := by rw [hfa]; exact lk
  exact ⟨u.d.name, u.d.qual, u.d.params, u.d.body, u.d.scope, dV, kV, doc, pm, cdv, ct, oc, an, od, osl, u.N, u.fuel, fdAt_eq lk', lk', F.code, S, hnv, hb⟩
/-- what a super-def's text must have -/
structure SupT (P : Program) (D : Dn) (u : DU) (fi : FnI) (c : Str) (ar : Arg) : Prop where
  sup : u.sup = some c
  at_ : D.ats.lookup u.key = some u.d.at_
  sco : CScope u.N fi.ps ["__class__"] u.d.scope
  nv : fi.nv = u.N.length
  body : fi.body = cSup D.G u.fuel ⟨u.N, u.d.scope, fun _ => false, none⟩ c u.d.body
  par : (u.d.params.posonlyargs ++ u.d.params.args).head? = some ar
  self : u.N[0]? = some ar.arg
  slf : u.d.scope.names.lookup ar.arg = some .local
  top : (P.main.scope.names.lookup ("super" : Str)).isSome = false
  ksu : u.d.scope.names.lookup ("super" : Str) = some .globalImplicit
  kcl : u.d.scope.names.lookup ("__class__" : Str) = some .free
  fsu : ("super" : Str) ∈ D.free
def Dn.supOk (D : Dn) (K : PySem.W.Frag) : Bool := decide (PySem.W.nsIn K cStatics "thirdparty.any" = some none) && D.sup.all fun q => decide (PySem.W.mroIn K (He.ga K q.1) (.ref (He.ga K q.2.1)) = some true) &&
  (He.eqO (PySem.W.ks_superIn K (He.ga K q.1) (He.ga K q.2.1) "__init__") (some (some (.ref (D.fa K q.2.2)))) && (decide (PySem.W.typeIn K (.ref (D.fa K q.2.2)) = some (.type "function")) && PySem.W.fnIn K (D.fa K q.2.2)))
theorem FunU.superX {c : Str} {ar : Arg} (F : FunU K u P.main.file (He.fAd K u.d.at_) cl dV kV doc pm an cdv ct) (T : SupT P D u fi c ar) (ok : D.supOk K = true) : ∃ sd, SupP P K (D.A K) D.G u.key fi sd ∧ sd.N = u.N ∧ sd.scope = u.d.scope ∧ sd.body = u.d.body ∧ sd.d = c := by
  obtain ⟨oc, od, osl, lk⟩ := F.lk
  have hcn := F.cn
  unfold DU.cn at hcn
  rw [T.sup] at hcn
  obtain ⟨s1, s⟩ := He.ba (F.sup c T.sup)
  obtain ⟨s2, s3⟩ := He.ba s
  have hcl : ∃ cc, cl = [(("__class__" : Str), cc)] := by
    cases cl with
    | nil => cases hcn
    | cons a r =>
      cases r with
      | nil =>
        obtain ⟨n, cc⟩ := a
        simp at hcn
        exact ⟨cc, by rw [hcn]⟩
      | cons _ _ => simp at hcn
  obtain ⟨cc, rfl⟩ := hcl
  unfold cellB at s1
  dsimp only at s1
  cases lcc : K.lookup cc with
  | none => rw [lcc] at s1; cases s1
  | some occ =>
  rw [lcc] at s1
  obtain ⟨o1, o2, o3, o4⟩ := occ
  cases o3 <;> first | (cases s1; done) | skip
  rename_i cv
  cases cv with
  | none => cases s1
  | some cv =>
  cases cv <;> first | (cases s1; done) | skip
  rename_i ad
  have had : ad = He.ga K c := of_decide_eq_true s1
  subst had
  unfold fileB at s2
  dsimp only at s2
  cases cdv <;> first | (cases s2; done) | skip
  rename_i cda
  dsimp only at s2
  cases lcd : K.lookup cda with
  | none => rw [lcd] at s2; cases s2
  | some ocd =>
  rw [lcd] at s2
  obtain ⟨p1, p2, p3, p4⟩ := ocd
  cases p3 <;> first | (cases s2; done) | skip
  rename_i vs
  dsimp only at s2
  cases evs : vs[2]? with
  | none => rw [evs] at s2; cases s2
  | some vf =>
  rw [evs] at s2
  cases vf <;> first | (cases s2; done) | skip
  rename_i fl tf
  obtain ⟨cdD, hD⟩ := Option.isSome_iff_exists.mp s3
  obtain ⟨ok1, ok2⟩ := He.ba ok
  have hfa : D.fa K u.key = He.fAd K u.d.at_ := by unfold Dn.fa; rw [T.at_]
  refine ⟨⟨u.d.name, u.d.qual, u.d.params, u.d.body, u.d.scope, dV, kV, doc, pm, ct, oc, an, od, osl, cda, cc, u.N, u.fuel, c, ar, vs, fl, tf, ⟨p1, p2, .fields vs, p4⟩, ⟨o1, o2, .cell (some (.ref (He.ga K c))), o4⟩, cdD⟩, ?_⟩
  have lk' : K.lookup (D.fa K u.key) = some ⟨oc, od, .func (PySem.W.ksFn u.d.name u.d.qual u.d.params u.d.body u.d.scope dV kV doc pm an (.ref cda) ct cc), osl⟩ := by rw [hfa]; exact lk
  refine ⟨?_, rfl, rfl, rfl, rfl⟩
  refine ⟨fdAt_eq lk', lk', F.code, T.sco, T.nv, T.body, T.par, T.self, T.slf, lcd, rfl, evs, s2, T.top, lcc, rfl, hD, T.ksu, T.kcl, T.fsu, of_decide_eq_true ok1, fun c' ci k2 _ e => ?_⟩
  have eb : (if ("__init__" : Str) = "__init__" then (D.sup.find? fun q => decide (q.1 = c') && decide (q.2.1 = c)).map (·.2.2) else none) = some k2 := e
  rw [if_pos rfl] at eb
  cases ef : (D.sup.find? fun q => decide (q.1 = c') && decide (q.2.1 = c)) with
  | none => rw [ef] at eb; cases eb
  | some q =>
    rw [ef] at eb
    cases eb
    have q1 := List.find?_some ef
    simp only [Bool.and_eq_true, decide_eq_true_eq] at q1
    obtain ⟨q2, q3⟩ := He.ba (List.all_eq_true.mp ok2 q (List.mem_of_find?_eq_some ef))
    obtain ⟨q3, q4⟩ := He.ba q3
    obtain ⟨q4, q5⟩ := He.ba q4
    obtain ⟨qa, qb, qc⟩ := q
    obtain ⟨rfl, rfl⟩ := q1
    exact ⟨of_decide_eq_true q2, He.eqO_ok q3, of_decide_eq_true q4, q5⟩
end
section
variable {P : Program} {D : Dn} {K : PySem.W.Frag} {u : DU} {file : Str} {fi : FnI} {cl : List (Str × Addr)} {dV kV doc pm : Value} {an : Option Addr} {cdv ct : Value}
theorem FunU.super {c : Str} {ar : Arg} (F : FunU K u P.main.file (He.fAd K u.d.at_) cl dV kV doc pm an cdv ct) (T : SupT P D u fi c ar) (ok : D.supOk K = true) : ∃ sd, SupP P K (D.A K) D.G u.key fi sd := by
  obtain ⟨sd, sp, _⟩ := F.superX T ok
  exact ⟨sd, sp⟩
end
/-! ### the Hook -/
def asU (g : Addr → Option Obj) (n : Nat) : List Addr := cStatics :: He.asD g n
abbrev AlU : Type := Bool × List FnS × List (Option (List (Option (Str × Int))))
def obsU (D : Dn) (us : List DU) (file : Str) (K : PySem.W.Frag) : AlU := (D.ok K && (D.supOk K && us.all fun u => u.ok K file), us.map fun u => fnS K u.d.at_, D.kds.map fun t => He.dicW K (He.ga K t.1))
def valU (D : Dn) (us : List DU) (w : World) : AlU := (true, us.map DU.val, D.kds.map fun t => some (He.keysIn w.params t.2))
def SaysU (D : Dn) (us : List DU) (file : Str) (w : World) (K : PySem.W.Frag) : Prop := obsU D us file K = valU D us w
def obsUG (n : Nat) (D : Dn) (us : List DU) (file : Str) (g : Addr → Option Obj) : AlU := obsU D us file (He.frG g (asU g n))
def hookU (n : Nat) (D : Dn) (us : List DU) (file : Str) : PySem.W.Hook where
  α := AlU
  obs := fun s => obsUG n D us file s.heap.get?
  val := fun w => valU D us w
  says := fun w h => ∃ K : PySem.W.Frag, K.In h ∧ SaysU D us file w K
  of := fun _ _ e => ⟨_, He.frG_in, e⟩
  keeps := fun _ _ _ ⟨K, hK, c⟩ k => ⟨K, PySem.W.Frag.In.keeps hK k, c⟩
theorem obsUG_eq {n : Nat} {D : Dn} {us : List DU} {file : Str} {g : Addr → Option Obj} {s : Shared} (h : ∀ a, g a = s.heap.get? a) : obsUG n D us file g = (hookU n D us file).obs s := by
  have e : g = s.heap.get? := funext h
  rw [e]; rfl
section
variable {D : Dn} {us : List DU} {file : Str} {w : World} {K : PySem.W.Frag}
theorem SaysU.ok (c : SaysU D us file w K) : D.ok K = true ∧ D.supOk K = true := by
  obtain ⟨h1, h⟩ := He.ba (show (D.ok K && (D.supOk K && us.all fun u => u.ok K file)) = true from congrArg (fun z : AlU => z.1) c)
  exact ⟨h1, (He.ba h).1⟩
theorem SaysU.fun (c : SaysU D us file w K) {u : DU} (hu : u ∈ us) : ∃ cl dV kV doc pm an cdv ct, FunU K u file (He.fAd K u.d.at_) cl dV kV doc pm an cdv ct := by
  obtain ⟨_, h⟩ := He.ba (show (D.ok K && (D.supOk K && us.all fun u => u.ok K file)) = true from congrArg (fun z : AlU => z.1) c)
  have h2 := List.all_eq_true.mp (He.ba h).2 u hu
  have e : us.map (fun u => fnS K u.d.at_) = us.map DU.val := congrArg (fun z : AlU => z.2.1) c
  obtain ⟨i, hi⟩ := List.mem_iff_getElem?.mp hu
  have e2 : (us.map fun u => fnS K u.d.at_)[i]? = (us.map DU.val)[i]? := by rw [e]
  rw [List.getElem?_map, List.getElem?_map, hi] at e2
  exact DU.fun (Option.some.inj e2) h2
theorem SaysU.kds (c : SaysU D us file w K) : ∀ x ∈ D.kds.map (·.1), KdP ⟨K, (D.A K).fa, (D.A K).ca, w.params⟩ (He.ga K x) := by
  intro x hx
  obtain ⟨t, ht, rfl⟩ := List.mem_map.mp hx
  obtain ⟨i, hi⟩ := List.mem_iff_getElem?.mp ht
  have e : D.kds.map (fun t => He.dicW K (He.ga K t.1)) = D.kds.map fun t => some (He.keysIn w.params t.2) := congrArg (fun z : AlU => z.2.2) c
  have e2 : (D.kds.map fun t => He.dicW K (He.ga K t.1))[i]? = (D.kds.map fun t => some (He.keysIn w.params t.2))[i]? := by rw [e]
  rw [List.getElem?_map, List.getElem?_map, hi] at e2
  obtain ⟨es, n, D⟩ := He.dicW_ok (Option.some.inj e2)
  exact ⟨es, n, D.at_, D.lit, D.low⟩
end
end Uw

namespace Uw
open PySem PySem.Spec PyProof.Rows L2
/-! ### shapes of calls -/
section
variable {K : PySem.W.Frag} {u : DU} {file : Str} {f : Addr} {fi : FnI} {cl : List (Str × Addr)} {dV kV doc pm : Value} {an : Option Addr} {cdv ct : Value} {n : Nat} {ks : List Str} {Ω : Gd}
def dvB : List (Str × W) → List (Str × He.Dv) → Bool
  | [], [] => true
  | (x, w) :: r, (y, d) :: q => decide (x = y) && ((match w, d with
    | .non, .non => true
    | .bl b, .bl c => b == c
    | .int i, .int j => decide (i = j)
    | .str x, .str y => decide (x = y)
    | _, _ => false) && dvB r q)
  | _, _ => false
theorem dvB_ok : ∀ {l : List (Str × W)} {m : List (Str × He.Dv)}, dvB l m = true → ∀ H, AllK (RelW Ω H) l (m.map fun q => (q.1, q.2.v K))
  | [], [], _, H => rfl
  | [], _ :: _, h, H => by simp [dvB] at h
  | _ :: _, [], h, H => by simp [dvB] at h
  | (x, w) :: r, (y, d) :: q, h, H => by
    unfold dvB at h
    obtain ⟨h1, h⟩ := He.ba h
    obtain ⟨h2, h3⟩ := He.ba h
    obtain rfl : x = y := of_decide_eq_true h1
    refine ⟨d.v K, _, rfl, ?_, dvB_ok h3 H⟩
    cases w <;> cases d <;> first | (cases h2; done) | skip
    · exact .non
    · simp at h2; subst h2; exact .bl
    · simp at h2; subst h2; exact .int
    · simp at h2; subst h2; exact .str
theorem allK_zip {xs : List Str} : ∀ {vs : List V} {us : List Value}, Vals vs us → AllK RelV (xs.zip vs) (xs.zip us) := fun h => AllK.zip (v_all2 h)
theorem AllK.app {α β : Type} {R : α → β → Prop} : ∀ {l l' : List (Str × α)} {m m' : List (Str × β)}, AllK R l m → AllK R l' m' → AllK R (l ++ l') (m ++ m')
  | [], l', m, m', h, h' => by rw [show m = [] from h]; exact h'
  | (k, a) :: r, l', m, m', ⟨b, q, e, x, h⟩, h' => by subst e; exact ⟨b, q ++ m', rfl, x, AllK.app h h'⟩
theorem zip_map {α : Type} (K : PySem.W.Frag) : ∀ (xs : List Str) (ds : List He.Dv), xs.zip (ds.map (He.Dv.v K)) = (xs.zip ds).map fun q => (q.1, q.2.v K)
  | [], _ => rfl
  | _ :: _, [] => rfl
  | x :: xs, d :: ds => by
    show (x, d.v K) :: xs.zip (ds.map (He.Dv.v K)) = _
    rw [zip_map (α := α) K xs ds]; rfl
theorem kw_vals {D : Addr} : ∀ {ms : List (Str × V)}, (∀ q ∈ ms, ∃ u, PySem.W.nsIn K D q.1 = some (some u) ∧ RelV q.2 u) → ∃ us : List (Str × Value), AllK RelV ms us ∧ us.map (·.1) = ms.map (·.1) ∧ ∀ q ∈ us, PySem.W.nsIn K D q.1 = some (some q.2)
  | [], _ => ⟨[], rfl, rfl, fun q h => absurd h (by simp)⟩
  | (k, v) :: r, h => by
    obtain ⟨u, h1, h2⟩ := h (k, v) List.mem_cons_self
    obtain ⟨us, a, b, c⟩ := kw_vals (ms := r) fun q hq => h q (List.mem_cons_of_mem _ hq)
    refine ⟨(k, u) :: us, ⟨u, us, rfl, h2, a⟩, by rw [List.map_cons, List.map_cons, b], fun q hq => ?_⟩
    rcases List.mem_cons.mp hq with rfl | hq
    · exact h1
    · exact c q hq
/-- no positional defaults, no keyword-only ones that lack -/
theorem FunU.shA (F : FunU K u file f cl dV kV doc pm an cdv ct) (hK : Ω.K = K) (hd : u.d.dfl = []) (hf : fi.dfl = [])
    (h : ∀ (cl : List (Str × Addr)) (kV doc pm : Value) (an : Option Addr) (cdv ct : Value) (us zs : List Value), us.length = n → zs.length = ks.length → ∃ all, bindG fi.ps [] ks us zs = some all ∧
      bindArgs (PySem.W.fnX u.d.name u.d.qual u.d.params u.d.body u.d.scope cl .none kV doc pm an cdv ct) ⟨us, ks.zip zs⟩ = pure (fi.ps.zip all)) :
    ShOk Ω (PySem.W.fnX u.d.name u.d.qual u.d.params u.d.body u.d.scope cl dV kV doc pm an cdv ct) fi n ks := by
  subst hK
  refine sh_of [] [] rfl (fun H => by rw [hf]; exact rfl) fun s us zs X h1 h2 => ?_
  obtain ⟨all, e1, e2⟩ := h cl kV doc pm an cdv ct us zs h1 h2
  refine ⟨all, e1, BindsTo.of_eq ?_⟩
  rcases F.dfl with ⟨_, rfl⟩ | ⟨e, _⟩
  · exact e2
  · exact absurd (by unfold He.DefD.dvs; rw [hd]; rfl) e
/-- positional defaults (xs: the names that have one), no keyword-only parameters -/
theorem FunU.shB (F : FunU K u file f cl dV kV doc pm an cdv ct) (hK : Ω.K = K) (xs : List Str) (hd : u.d.dfl ≠ []) (hf : dvB fi.dfl (xs.zip u.d.dfl) = true)
    (h : ∀ (cl : List (Str × Addr)) (T : Addr) (kV doc pm : Value) (an : Option Addr) (cdv ct : Value) (us zs its : List Value), us.length = n → zs.length = ks.length → its.length = u.d.dfl.length → ∃ all, bindG fi.ps (xs.zip its) ks us zs = some all ∧
      ∃ k, bindArgs (PySem.W.fnX u.d.name u.d.qual u.d.params u.d.body u.d.scope cl (.ref T) kV doc pm an cdv ct) ⟨us, ks.zip zs⟩ = seqItems? (.ref T) >>= k ∧ k (some its.toArray) = pure (fi.ps.zip all)) :
    ShOk Ω (PySem.W.fnX u.d.name u.d.qual u.d.params u.d.body u.d.scope cl dV kV doc pm an cdv ct) fi n ks := by
  subst hK
  rcases F.dfl with ⟨e, _⟩ | ⟨_, T, o, its, m, rfl, lT, oT, rT⟩
  · exact absurd (List.map_eq_nil_iff.mp e) hd
  · refine sh_of (xs.zip (u.d.dvs Ω.K)) (xs.zip its) (allK_zip rT) (fun H => ?_) fun s us zs X h1 h2 => ?_
    · show AllK _ _ (xs.zip (u.d.dfl.map (He.Dv.v Ω.K)))
      rw [zip_map (α := Unit)]
      exact dvB_ok hf H
    · have l1 : its.length = u.d.dfl.length := by rw [← rT.length]; exact List.length_map _
      obtain ⟨all, e1, k, e2, e3⟩ := h cl T kV doc pm an cdv ct us zs its h1 h2 l1
      refine ⟨all, e1, BindsTo.of_looks fun M => ?_⟩
      rw [e2]
      exact looks_items X lT oT (.of_pure e3)
/-- keyword-only defaults (ms: those that lack), no positional ones -/
theorem FunU.shC (F : FunU K u file f cl dV kV doc pm an cdv ct) (hK : Ω.K = K) (hd : u.d.dfl = []) (hk : u.d.kwd ≠ []) (hf : dvB fi.dfl u.d.kwd = true)
    (h : ∀ (cl : List (Str × Addr)) (D : Addr) (doc pm : Value) (an : Option Addr) (cdv ct : Value) (us zs : List Value) (kv : List (Str × Value)), us.length = n → zs.length = ks.length → kv.map (·.1) = u.d.kwd.map (·.1) → ∃ all, bindG fi.ps kv ks us zs = some all ∧
      ∃ ms, (∀ q ∈ ms, q ∈ kv) ∧ KwChain D ms (bindArgs (PySem.W.fnX u.d.name u.d.qual u.d.params u.d.body u.d.scope cl .none (.ref D) doc pm an cdv ct) ⟨us, ks.zip zs⟩) (fi.ps.zip all)) :
    ShOk Ω (PySem.W.fnX u.d.name u.d.qual u.d.params u.d.body u.d.scope cl dV kV doc pm an cdv ct) fi n ks := by
  subst hK
  rcases F.dfl with ⟨_, rfl⟩ | ⟨e, _⟩
  · rcases F.kwd with e | ⟨D, rfl, hq⟩
    · exact absurd (List.map_eq_nil_iff.mp e) hk
    · obtain ⟨kv, a, b, c⟩ := kw_vals hq
      refine sh_of (u.d.kws Ω.K) kv a (fun H => dvB_ok hf H) fun s us zs X h1 h2 => ?_
      obtain ⟨all, e1, ms, hm, e2⟩ := h cl D doc pm an cdv ct us zs kv h1 h2 (by rw [b]; unfold He.DefD.kws; rw [List.map_map]; rfl)
      exact ⟨all, e1, BindsTo.of_looks fun M => KwChain.looks X (fun q hq => c q (hm q hq)) e2⟩
  · exact absurd (by unfold He.DefD.dvs; rw [hd]; rfl) e
end
/-! ### all that the text of a law has, def by def -/
def fnscB (N ps : List Str) (sc : Scope) : Bool := (match sc.kind with
    | .function => true
    | _ => false) && (!sc.isCoroutine && (!sc.isGenerator && (decide N.Nodup && (decide (N.take ps.length = ps) && ((ps.all fun x => match sc.names.lookup x with
      | some .local => true
      | some .cell => true
      | _ => false) && sc.names.all fun y => match y.2 with
      | .free => false
      | _ => true)))))
theorem fnsc_by {N ps : List Str} {sc : Scope} (h : fnscB N ps sc = true) : FnScope N ps sc := by
  obtain ⟨h1, h⟩ := He.ba h
  obtain ⟨h2, h⟩ := He.ba h
  obtain ⟨h3, h⟩ := He.ba h
  obtain ⟨h4, h⟩ := He.ba h
  obtain ⟨h5, h⟩ := He.ba h
  obtain ⟨h6, h7⟩ := He.ba h
  refine ⟨?_, by simpa using h2, by simpa using h3, of_decide_eq_true h4, of_decide_eq_true h5, fun x hx => ?_, fun y hy e => ?_⟩
  · split at h1
    · assumption
    · cases h1
  · have q := List.all_eq_true.mp h6 x hx
    split at q
    · rename_i e; exact .inl e
    · rename_i e; exact .inr e
    · cases q
  · have q := List.all_eq_true.mp h7 y hy
    rw [e] at q
    cases q
def StatD (P : Program) (D : Dn) (u : DU) (fi : FnI) : Prop := (u.sup = none ∧ D.ats.lookup u.key = some u.d.at_ ∧ FnScope u.N fi.ps u.d.scope ∧ fi.nv = u.N.length ∧ fi.body = cSs D.G u.fuel ⟨u.N, u.d.scope, fun _ => true, none⟩ u.d.body) ∨ ∃ c ar, SupT P D u fi c ar
def ShpD (u : DU) (fi : FnI) : Prop := ∀ (K : PySem.W.Frag) (file : Str) (f : Addr) (cl : List (Str × Addr)) (dV kV doc pm : Value) (an : Option Addr) (cdv ct : Value), FunU K u file f cl dV kV doc pm an cdv ct → ∀ Ω : Gd, Ω.K = K → ∀ n ks, (n, ks) ∈ fi.sh →
  ShOk Ω (PySem.W.fnX u.d.name u.d.qual u.d.params u.d.body u.d.scope cl dV kV doc pm an cdv ct) fi n ks
/-- def by def, along the two lists -/
def Texts (P : Program) (D : Dn) : List (Str × FnI) → List DU → Prop
  | [], us => us = []
  | (k, fi) :: r, us => ∃ u q, us = u :: q ∧ u.key = k ∧ D.ats.lookup u.key = some u.d.at_ ∧ StatD P D u fi ∧ ShpD u fi ∧ Texts P D r q
theorem Texts.get {P : Program} {D : Dn} {k : Str} {fi : FnI} : ∀ {l : List (Str × FnI)} {us : List DU}, Texts P D l us → (k, fi) ∈ l → ∃ u ∈ us, u.key = k ∧ D.ats.lookup u.key = some u.d.at_ ∧ StatD P D u fi ∧ ShpD u fi
  | [], us, _, h => absurd h (by simp)
  | (k', fi') :: r, us, ⟨u, q, e, e1, e0, e2, e3, t⟩, h => by
    subst e
    rcases List.mem_cons.mp h with h | h
    · cases h; exact ⟨u, List.mem_cons_self, e1, e0, e2, e3⟩
    · obtain ⟨u', hu, z⟩ := Texts.get t h
      exact ⟨u', List.mem_cons_of_mem _ hu, z⟩
/-- the exceptions' __init__, one by one -/
def XTexts (P : Program) (D : Dn) (us : List DU) : List (Str × ExI) → Prop
  | [] => True
  | (_, xi) :: r => (∀ k, xi.init = some k → xi.fl ≠ [] → ∃ u ∈ us, ∃ fi c ar, u.key = k ∧ SupT P D u fi c ar ∧ c = xi.dc ∧ xiB ⟨u.N, u.d.scope, fun _ => false, none⟩ u.d.body = some xi.fl ∧ xi.fl.length ≤ 900 ∧ fi.ps.length = xi.ar + 1 ∧ u.d.dfl = [] ∧
      ∀ (cl : List (Str × Addr)) (kV doc pm : Value) (an : Option Addr) (cdv ct : Value) (vs : List Value), vs.length = fi.ps.length → bindArgs (PySem.W.fnX u.d.name u.d.qual u.d.params u.d.body u.d.scope cl .none kV doc pm an cdv ct) ⟨vs, []⟩ = pure (fi.ps.zip vs)) ∧ XTexts P D us r
theorem XTexts.get {P : Program} {D : Dn} {us : List DU} {c : Str} {xi : ExI} : ∀ {l : List (Str × ExI)}, XTexts P D us l → (c, xi) ∈ l → ∀ k, xi.init = some k → xi.fl ≠ [] → ∃ u ∈ us, ∃ fi c ar, u.key = k ∧ SupT P D u fi c ar ∧ c = xi.dc ∧ xiB ⟨u.N, u.d.scope, fun _ => false, none⟩ u.d.body = some xi.fl ∧ xi.fl.length ≤ 900 ∧ fi.ps.length = xi.ar + 1 ∧ u.d.dfl = [] ∧
      ∀ (cl : List (Str × Addr)) (kV doc pm : Value) (an : Option Addr) (cdv ct : Value) (vs : List Value), vs.length = fi.ps.length → bindArgs (PySem.W.fnX u.d.name u.d.qual u.d.params u.d.body u.d.scope cl .none kV doc pm an cdv ct) ⟨vs, []⟩ = pure (fi.ps.zip vs)
  | [], _, h => absurd h (by simp)
  | (c', xi') :: r, ⟨q, t⟩, h => by
    rcases List.mem_cons.mp h with h | h
    · cases h; exact q
    · exact XTexts.get t h
section
variable {P : Program} {D : Dn} {us : List DU} {K : PySem.W.Frag} {h : Heap} {mg : Str → Option Value} {w : World} {base : Heap}
theorem says_xi (t : XTexts P D us D.exn) (c : SaysU D us P.main.file w K) : XiS P K (D.A K) D.G := fun cn xi k ec hi hfl => by
  obtain ⟨u, hu, fi, cc, ar, rfl, T, hd, hb, hl, hps, hdf, hbi⟩ := t.get (PySem.mem_of_lookup ec) k hi hfl
  obtain ⟨ok1, ok2⟩ := c.ok
  obtain ⟨cl, dV, kV, doc, pm, an, cdv, ct, F⟩ := c.fun hu
  obtain ⟨oc, od, osl, lk⟩ := F.lk
  have hfa : D.fa K u.key = He.fAd K u.d.at_ := by unfold Dn.fa; rw [T.at_]
  have efd : (D.A K).fd u.key = PySem.W.fnX u.d.name u.d.qual u.d.params u.d.body u.d.scope cl dV kV doc pm an cdv ct := by
    show fdAt K (D.fa K u.key) = _
    rw [hfa]
    exact fdAt_eq lk
  obtain ⟨sd, sp, e1, e2, e3, e4⟩ := F.superX T ok2
  refine ⟨fi, sd, sp, by rw [e4]; exact hd, by rw [e1, e2, e3]; exact hb, hl, hps, fun s us X hlen => ?_⟩
  rw [efd]
  rcases F.dfl with ⟨_, rfl⟩ | ⟨e, _⟩
  · exact BindsTo.of_eq (hbi _ _ _ _ _ _ _ _ hlen)
  · exact absurd (by unfold He.DefD.dvs; rw [hdf]; rfl) e
theorem says_all (t : Texts P D D.fns us) (c : SaysU D us P.main.file w K) (X : K.In h) (N : h.Ns mainGlobals mg) : GF w K mg (D.A K) D.G ∧ DefsOk P K (D.A K) D.G := by
  obtain ⟨ok1, ok2⟩ := c.ok
  refine ⟨Dn.gf c.kds X N ok1 fun k fi e n ks hm => ?_, fun k fi e => ?_⟩
  · obtain ⟨u, hu, rfl, hat, st, sh⟩ := t.get (PySem.mem_of_lookup e)
    obtain ⟨cl, dV, kV, doc, pm, an, cdv, ct, F⟩ := c.fun hu
    obtain ⟨oc, od, osl, lk⟩ := F.lk
    have hfa : D.fa K u.key = He.fAd K u.d.at_ := by unfold Dn.fa; rw [hat]
    have : (D.A K).fd u.key = PySem.W.fnX u.d.name u.d.qual u.d.params u.d.body u.d.scope cl dV kV doc pm an cdv ct := by
      show fdAt K (D.fa K u.key) = _
      rw [hfa]
      exact fdAt_eq lk
    rw [this]
    exact sh K _ _ cl dV kV doc pm an cdv ct F _ rfl n ks hm
  · obtain ⟨u, hu, rfl, hat, st, sh⟩ := t.get (PySem.mem_of_lookup e)
    obtain ⟨cl, dV, kV, doc, pm, an, cdv, ct, F⟩ := c.fun hu
    rcases st with ⟨h1, h2, h3, h4, h5⟩ | ⟨c', ar, T⟩
    · exact .inl (F.plain h1 h2 h3 h4 h5)
    · exact .inr (F.super T ok2)
end
/-! ### the end -/
theorem walk_u {l : PySem.W.OpenLaw} {D : Dn} {us : List DU} {n k : Nat} {q : Program} {loose : List Str} {XP : (Str → Option Value) → Heap → Prop} {d : DefRec} {x : Str} {fi : FnI} {m : Nat} {um : DU}
    (hn : l.most = some n) (hn2 : n ≤ sizeLine) (hdf : d.params.defaults = []) (hr : Room (k + 2) callerA) (hnm : d.name = "law") (t : Texts l.prog D D.fns us) (xt : XTexts l.prog D us D.exn) (hg : D.G.gl "law" = true) (hfi : D.G.fn "law" = some fi) (hps : fi.ps = [x])
    (hum : um ∈ us) (hat : D.ats.lookup ("law" : Str) = some um.d.at_) (hud : um.d.dfl = []) (hbi : ∀ (cl : List (Str × Addr)) (kV doc pm : Value) (an : Option Addr) (cdv ct v : Value), bindArgs (PySem.W.fnX um.d.name um.d.qual um.d.params um.d.body um.d.scope cl .none kV doc pm an cdv ct) ⟨[v], []⟩ = pure [(x, v)])
    (hlaw : ∀ ns : List Int, ns.length ≤ n → sem D.G k "law" [.scr ns] (fun _ => none) (fun v _ => v = .bl true) (fun _ _ => False)) :
    PySem.W.WalkO q loose XP (hookU m D us l.prog.main.file).says l.row.toRowW d [] (fun f vs => PySem.call f vs) := by
  refine Att.attach_call hn hdf fun w s₀ s₁ mg mb fa o pm cd doc a vs ns G Y ho hd hcd hmg hobj hints hlen hgg => ?_
  obtain ⟨K, KX, c⟩ := Y
  obtain ⟨gf, df⟩ := says_all t c KX G.T.g
  rw [hnm] at hmg
  have efa : fa = D.fa K "law" := by
    have := hmg.symm.trans (gf.gl "law" hg)
    cases this; rfl
  subst efa
  have hF : ∀ base, FnOk l.prog w K mg base (L2.CX l.prog w) (k + 2) (D.fa K "law") ((D.A K).fd "law") [x] (spW ⟨K, (D.A K).fa, (D.A K).ca, w.params⟩ (sem D.G k "law")) := fun base => by
    have := (fns_okS (P := l.prog) (w := w) (mg := mg) (base := base) gf df (xi_ok gf (says_xi xt c)) k).1 "law" fi hfi
    rw [hps] at this
    exact this
  have hb : ∀ (s : Shared) (v : Value), BindsTo s ((D.A K).fd "law") ⟨[v], []⟩ [(x, v)] := fun s v => by
    obtain ⟨cl, dV, kV, doc, pm, an, cdv, ct, F⟩ := c.fun hum
    obtain ⟨oc, od, osl, lk⟩ := F.lk
    have hfa : D.fa K "law" = He.fAd K um.d.at_ := by unfold Dn.fa; rw [hat]
    have : (D.A K).fd "law" = PySem.W.fnX um.d.name um.d.qual um.d.params um.d.body um.d.scope cl dV kV doc pm an cdv ct := by
      show fdAt K (D.fa K "law") = _
      rw [hfa]
      exact fdAt_eq lk
    rw [this]
    rcases F.dfl with ⟨_, rfl⟩ | ⟨e, _⟩
    · exact BindsTo.of_eq (hbi _ _ _ _ _ _ _ _)
    · exact absurd (by unfold He.DefD.dvs; rw [hud]; rfl) e
  refine law_call KX G.T.g G.T.b G.T.builtins G.T.nolimit hgg hobj hints (Nat.le_trans hlen hn2) hr (fun base _ _ => hF base) hb (fun H hO hS => ?_) fun H e s' hx => ?_
  · refine ⟨[.scr ns], fun _ => none, _, _, .cons (.scr ?_) .nil, fun b o e => (by cases e), hlaw ns hlen, fun w HW' v H' _ r _ e => ?_, fun _ _ _ _ _ _ _ _ z => z⟩
    · rcases hS with (hS | hS) | hS
      · rcases hO a with z | ⟨o, xs, z⟩ <;> rw [z] at hS <;> cases hS
      · exact .inl hS
      · exact .inr hS
    · subst e; exact r.i_bl
  · obtain ⟨_, _, _, _, _, _, _, _, _, _, _, _, z⟩ := hx
    exact z
end Uw
namespace Uw
open PySem PySem.W PySem.Calls HandSHeadRun
theorem map3_of {α β γ δ : Type} {o : Option δ} {f : δ → α} {g : δ → β} {h : δ → γ} {a : α} {b : β} {c : γ} (h1 : o.map f = some a) (h2 : o.map g = some b) (h3 : o.map h = some c) : o.map (fun s => (f s, g s, h s)) = some (a, b, c) := by
  cases o with
  | none => cases h1
  | some s =>
    simp only [Option.map_some, Option.some.injEq] at h1 h2 h3 ⊢
    rw [h1, h2, h3]
/-- the head's run by its three looks, each a theorem of its own -/
theorem run_of3 {R : OpenRow} {q : Program} {H : Hook} {ob : SharedT → H.α} {M : Nat} {loose : List PySem.Str} {w : World}
    (h1 : ∀ os, (endF (stepQ (denQ tabQ) R.prog w) M R.prog w os).map (fun s => looksF R.prog (boot_heap w.params) s.abs) = some true)
    (h2 : ∀ os, (endF (stepQ (denQ tabQ) R.prog w) M R.prog w os).map (fun s => seenQ q loose (importedModules R.prog.main.body) (fun s => xlAt q [] s && recOk R.toRowW.records s) s.abs) = some (openGood q loose))
    (h3 : ∀ os, (endF (stepQ (denQ tabQ) R.prog w) M R.prog w os).map ob = some (H.val w)) : RunEq R q H ob M loose w := fun os => map3_of (h1 os) (h2 os) (h3 os)
end Uw

/-! ### the look at the tables, in pieces (each a theorem of its own: less memory) -/
namespace Uw
open PySem PySem.W PySem.Calls HandSHeadRun
def Dn.o1 (D : Dn) (K : Frag) : Bool := He.eqO (PySem.W.nsIn K cStatics "sys.int_max_str_digits") (some none) && ((D.exm.all fun q => decide (PySem.W.exmOne K (Dn.xv K q.1) (Dn.xv K q.2.1) = some q.2.2)) && ((D.exn.all fun q => exnB D K q.1 q.2) && (
  (D.fns.all fun q => PySem.W.keepIn K (.ref (D.fa K q.1))) && ((D.gls.all fun k => He.eqO (PySem.W.nsIn K mainGlobals k) (some (some (.ref (D.fa K k))))) && (D.cons.all fun q => match PySem.W.nsIn K mainGlobals q.1 with
    | some (some u) => conB (D.kds.map (·.1)) K q.2 u
    | _ => false)))))
def Dn.o3 (D : Dn) (K : Frag) : Bool := (D.free.all fun x => (He.Fa.free x).ok K) && ((D.isa.all fun q => decide (PySem.W.kitOne K (.ref (He.ga K q.1)) (Dn.xv K q.2.1) = some q.2.2)) && D.supOk K)
theorem Dn.ok_of {D : Dn} {K : Frag} (h1 : D.o1 K = true) (h2 : (D.cls.all fun q => clsB D K q.1 q.2) = true) (h3 : D.o3 K = true) : D.ok K = true ∧ D.supOk K = true := by
  unfold Dn.o1 at h1
  unfold Dn.o3 at h3
  obtain ⟨a0, h1⟩ := He.ba h1
  obtain ⟨a1, h1⟩ := He.ba h1
  obtain ⟨a2, h1⟩ := He.ba h1
  obtain ⟨a3, h1⟩ := He.ba h1
  obtain ⟨a4, a5⟩ := He.ba h1
  obtain ⟨b1, h3⟩ := He.ba h3
  obtain ⟨b2, b3⟩ := He.ba h3
  refine ⟨?_, b3⟩
  unfold Dn.ok
  rw [a0, a1, a2, a3, a4, h2, b1, b2]
  simp only [Bool.true_and]
  rw [Bool.and_true]
  exact a5
theorem obs_of {o : Option SharedT} {Kf : SharedT → Frag} {D : Dn} {us : List DU} {file : PySem.Str} {w : World} {cs : List (List (PySem.Str × ClsI))} (hcs : D.cls = cs.flatten)
    (h1 : o.map (fun s => D.o1 (Kf s)) = some true) (h3 : o.map (fun s => D.o3 (Kf s)) = some true) (h2 : ∀ l ∈ cs, o.map (fun s => l.all fun q => clsB D (Kf s) q.1 q.2) = some true)
    (h5 : o.map (fun s => (us.all fun u => u.ok (Kf s) file, us.map fun u => fnS (Kf s) u.d.at_, D.kds.map fun t => He.dicW (Kf s) (He.ga (Kf s) t.1))) = some (true, us.map DU.val, D.kds.map fun t => some (He.keysIn w.params t.2))) :
    o.map (fun s => obsU D us file (Kf s)) = some (valU D us w) := by
  cases o with
  | none => cases h1
  | some s =>
    simp only [Option.map_some, Option.some.injEq] at h1 h2 h3 h5 ⊢
    have hc : (D.cls.all fun q => clsB D (Kf s) q.1 q.2) = true := by
      rw [hcs, List.all_eq_true]
      intro q hq
      obtain ⟨l, hl, hql⟩ := List.mem_flatten.mp hq
      exact List.all_eq_true.mp (h2 l hl) q hql
    obtain ⟨k1, k2⟩ := Dn.ok_of h1 hc h3
    unfold obsU valU
    rw [k1, k2]
    simpa using h5
end Uw

namespace Uw
open PySem PySem.Spec PyProof.Rows L2
theorem nr {α : Sort _} {a b : α} (h : a = b) : a = b := h
section
variable {G : GT} {L : Lv} {σ : StW} {H : HpW} {Q : QW} {E : EW} {D : EndsW} {a b c e es r o i' : T} {i j : Int} {n : Nat} {w x y z : W} {p : Addr} {ws : List W}
@[simp] theorem off_x {z : Option (Addr × XC × Option Addr)} : (Lv.off z).x = z := rfl
/-! operators: where no class has a word of its own -/
theorem binG_no {op : Operator} (h : kncW H x = none) (h2 : ∀ i, x = .int i → kncW H y = none) : binG G L op x y H Q E = binW op x y H Q := by
  unfold binG
  split
  · rfl
  · have e : ∀ m, ownM G H x m = none := fun m => by unfold ownM; rw [h]
    rw [e]
    dsimp only
    split
    · rename_i e1 e2
      have := h2 _ rfl
      unfold ownM at e1
      rw [this] at e1
      cases e1
    · rfl
@[simp] theorem bg_ii {op : Operator} : binG G L op (.int i) (.int j) H Q E = binW op (.int i) (.int j) H Q := binG_no rfl fun _ _ => rfl
@[simp] theorem bg_is {op : Operator} {u : Str} : binG G L op (.int i) (.str u) H Q E = binW op (.int i) (.str u) H Q := binG_no rfl fun _ _ => rfl
@[simp] theorem bg_s {op : Operator} {u : Str} : binG G L op (.str u) y H Q E = binW op (.str u) y H Q := binG_no rfl fun _ h => by cases h
@[simp] theorem bg_t {op : Operator} : binG G L op (.tup ws) y H Q E = binW op (.tup ws) y H Q := binG_no rfl fun _ h => by cases h
@[simp] theorem bg_b {op : Operator} {k : Bool} : binG G L op (.bl k) y H Q E = binW op (.bl k) y H Q := binG_no rfl fun _ h => by cases h
@[simp] theorem bg_l {op : Operator} (h : H p = some (.lst ws)) : binG G L op (.ref p) y H Q E = binW op (.ref p) y H Q := binG_no (by simp [kncW, h]) fun _ h => by cases h
theorem bg_li {op : Operator} (h : H p = some (.lst ws)) : binG G L op (.int i) (.ref p) H Q E = binW op (.int i) (.ref p) H Q := binG_no rfl fun _ _ => by simp [kncW, h]
@[simp] theorem bg_sub : binG G L .Sub x y H Q E = binW .Sub x y H Q := rfl
@[simp] theorem bg_mod : binG G L .Mod x y H Q E = binW .Mod x y H Q := rfl
@[simp] theorem bg_div : binG G L .FloorDiv x y H Q E = binW .FloorDiv x y H Q := rfl
theorem cmpG_no {op : CmpOp} (h : kncW H x = none) : cmpG G L op x y H Q E = cmpW op x y H Q := by
  unfold cmpG
  split
  · rfl
  · have e : ∀ m, ownM G H x m = none := fun m => by unfold ownM; rw [h]
    rw [e]
@[simp] theorem cg_i {op : CmpOp} : cmpG G L op (.int i) y H Q E = cmpW op (.int i) y H Q := cmpG_no rfl
@[simp] theorem cg_s {op : CmpOp} {u : Str} : cmpG G L op (.str u) y H Q E = cmpW op (.str u) y H Q := cmpG_no rfl
@[simp] theorem cg_b {op : CmpOp} {k : Bool} : cmpG G L op (.bl k) y H Q E = cmpW op (.bl k) y H Q := cmpG_no rfl
@[simp] theorem cg_n {op : CmpOp} : cmpG G L op .non y H Q E = cmpW op .non y H Q := cmpG_no rfl
@[simp] theorem cg_t {op : CmpOp} : cmpG G L op (.tup ws) y H Q E = cmpW op (.tup ws) y H Q := cmpG_no rfl
@[simp] theorem cg_l {op : CmpOp} (h : H p = some (.lst ws)) : cmpG G L op (.ref p) y H Q E = cmpW op (.ref p) y H Q := cmpG_no (by simp [kncW, h])
@[simp] theorem cg_d {op : CmpOp} {kvs : List (Key × W)} (h : H p = some (.dct kvs)) : cmpG G L op (.ref p) y H Q E = cmpW op (.ref p) y H Q := cmpG_no (by simp [kncW, h])
@[simp] theorem cg_f {op : CmpOp} {kvs : List (Key × W)} (h : H p = some (.fdc kvs)) : cmpG G L op (.ref p) y H Q E = cmpW op (.ref p) y H Q := cmpG_no (by simp [kncW, h])
@[simp] theorem cg_in : cmpG G L .In x y H Q E = cmpW .In x y H Q := rfl
@[simp] theorem cg_ni : cmpG G L .NotIn x y H Q E = cmpW .NotIn x y H Q := rfl
@[simp] theorem cg_Is : cmpG G L .Is x y H Q E = cmpW .Is x y H Q := rfl
@[simp] theorem cg_nIs : cmpG G L .IsNot x y H Q E = cmpW .IsNot x y H Q := rfl
@[simp] theorem x_lt : cmpW .Lt (.int i) (.int j) H Q = Q (.bl (decide (i < j))) H := nr rfl
@[simp] theorem x_le : cmpW .LtE (.int i) (.int j) H Q = Q (.bl (decide (i ≤ j))) H := nr rfl
@[simp] theorem x_gt : cmpW .Gt (.int i) (.int j) H Q = Q (.bl (decide (j < i))) H := nr rfl
@[simp] theorem x_ge : cmpW .GtE (.int i) (.int j) H Q = Q (.bl (decide (j ≤ i))) H := nr rfl
@[simp] theorem x_eqi : cmpW .Eq (.int i) (.int j) H Q = Q (.bl (decide (i = j))) H := by simp [cmpW, eqW, scalE]
@[simp] theorem x_nei : cmpW .NotEq (.int i) (.int j) H Q = Q (.bl (!decide (i = j))) H := by simp [cmpW, eqW, scalE]
@[simp] theorem x_eqs {u v : Str} : cmpW .Eq (.str u) (.str v) H Q = Q (.bl (decide (u = v))) H := by simp [cmpW, eqW, scalE]
@[simp] theorem x_nes {u v : Str} : cmpW .NotEq (.str u) (.str v) H Q = Q (.bl (!decide (u = v))) H := by simp [cmpW, eqW, scalE]
@[simp] theorem x_isn : cmpW .Is x .non H Q = Q (.bl (isNon x)) H := by simp [cmpW, isW]
@[simp] theorem x_isb {k : Bool} : cmpW .Is x (.bl k) H Q = Q (.bl (isBl k x)) H := by simp [cmpW, isW]
@[simp] theorem x_inn : cmpW .IsNot x .non H Q = Q (.bl (!isNon x)) H := by simp [cmpW, isW]
@[simp] theorem x_int : cmpW .In x (.tup ws) H Q = (flatW x = true ∧ ws.all flatW = true ∧ Q (.bl (inF x ws)) H) := by simp [cmpW, inW]
@[simp] theorem x_nin : cmpW .NotIn x (.tup ws) H Q = (flatW x = true ∧ ws.all flatW = true ∧ Q (.bl (!inF x ws)) H) := by simp [cmpW, inW]
@[simp] theorem b_add : binW .Add (.int i) (.int j) H Q = Q (.int (i + j)) H := nr rfl
@[simp] theorem b_sub : binW .Sub (.int i) (.int j) H Q = Q (.int (i - j)) H := nr rfl
@[simp] theorem b_mul : binW .Mult (.int i) (.int j) H Q = (MulOk i j ∧ Q (.int (i * j)) H) := nr rfl
@[simp] theorem b_mod : binW .Mod (.int i) (.int j) H Q = (0 < j ∧ Q (.int (i % j)) H) := nr rfl
@[simp] theorem b_div : binW .FloorDiv (.int i) (.int j) H Q = ((0 < j ∧ (j < 1073741824 ∨ j.natAbs.log2 < 9000)) ∧ Q (.int (i / j)) H) := nr rfl
@[simp] theorem b_cat {u v : Str} : binW .Add (.str u) (.str v) H Q = (u.length + v.length ≤ sizeLine ∧ Q (.str (u ++ v)) H) := nr rfl
@[simp] theorem e_var : wE G L (.var n) σ H Q E = (match sg σ n with
    | some w => Q w H
    | none => False) := nr rfl
@[simp] theorem e_non : wE G L .non σ H Q E = Q .non H := nr rfl
@[simp] theorem e_bl {k : Bool} : wE G L (.bl k) σ H Q E = Q (.bl k) H := nr rfl
@[simp] theorem e_int : wE G L (.int i) σ H Q E = Q (.int i) H := nr rfl
@[simp] theorem e_str {u : Str} : wE G L (.str u) σ H Q E = Q (.str u) H := nr rfl
@[simp] theorem e_con {u : Str} : wE G L (.con u) σ H Q E = (match G.con u with
    | some w => Q w H
    | none => False) := nr rfl
@[simp] theorem e_bin {op : Operator} : wE G L (.bin op a b) σ H Q E = wE G L a σ H (fun x H1 => wE G L b σ H1 (fun y H2 => binG G L op x y H2 Q E) E) E := nr rfl
@[simp] theorem e_neg : wE G L (.neg a) σ H Q E = wE G L a σ H (fun x H1 => match x with
    | .int i => Q (.int (-i)) H1
    | _ => False) E := nr rfl
@[simp] theorem e_not : wE G L (.not a) σ H Q E = wE G L a σ H (fun w H1 => match truW H1 w with
    | some b => Q (.bl (!b)) H1
    | none => False) E := nr rfl
@[simp] theorem e_and : wE G L (.and a b) σ H Q E = wE G L a σ H (fun x H1 => match x with
    | .bl k => if k = true then wE G L b σ H1 Q E else Q (.bl false) H1
    | _ => False) E := nr rfl
@[simp] theorem e_or : wE G L (.or a b) σ H Q E = wE G L a σ H (fun x H1 => match x with
    | .bl k => if k = true then Q (.bl true) H1 else wE G L b σ H1 Q E
    | _ => False) E := nr rfl
@[simp] theorem e_cmp {op : CmpOp} : wE G L (.cmp op a b) σ H Q E = wE G L a σ H (fun x H1 => wE G L b σ H1 (fun y H2 => cmpG G L op x y H2 Q E) E) E := nr rfl
@[simp] theorem e_ite : wE G L (.ite c a b) σ H Q E = wT G L c σ H (fun k H1 => if k = true then wE G L a σ H1 Q E else wE G L b σ H1 Q E) E := nr rfl
def SzOk (n : Nat) : Prop := n ≤ sizeLine
@[simp] theorem szS {n : Nat} (h : n < 1000) : SzOk n = True := eq_true (Nat.le_trans (Nat.le_of_lt h) (by decide))
def SzK (n : Nat) : Prop := n ≤ 1000
@[simp] theorem szK {n : Nat} (h : n < 1000) : SzK n = True := eq_true (Nat.le_of_lt h)
@[simp] theorem e_tup : wE G L (.tup es) σ H Q E = wA G L es σ H (fun ws H1 => SzOk ws.length ∧ Q (.tup ws) H1) E := nr rfl
@[simp] theorem e_lst : wE G L (.lst es) σ H Q E = wA G L es σ H (fun ws H1 => SzOk ws.length ∧ ∀ p, H1 p = none → Q (.ref p) (updW H1 p (.lst ws))) E := nr rfl
@[simp] theorem e_att {f : Str} : wE G L (.att a f) σ H Q E = wE G L a σ H (fun x H1 => match x with
    | .ref p => (match H1 p with
      | some (.ins c fs) => (match G.cl c with
        | some ci => f ∈ ci.flds ∧ (match fs.lookup f with
          | some w => Q w H1
          | none => False)
        | none => False)
      | _ => False)
    | _ => False) E := nr rfl
@[simp] theorem e_idx : wE G L (.idx a b) σ H Q E = wE G L a σ H (fun x H1 => wE G L b σ H1 (fun y H2 => idxW x y H2 Q) E) E := nr rfl
@[simp] theorem e_call {k : Str} : wE G L (.call k es) σ H Q E = wA G L es σ H (fun ws H1 => match G.fn k with
    | some fi => (match fi.bind [] ws [] with
      | some zs => L.c k zs H1 Q E
      | none => False)
    | none => False) E := nr rfl
@[simp] theorem e_blt {k : Blt} : wE G L (.blt k es) σ H Q E = wA G L es σ H (fun ws H1 => bltW k ws H1 Q) E := nr rfl
@[simp] theorem e_isi {cx : XC} : wE G L (.isi a [cx]) σ H Q E = wE G L a σ H (fun x H1 => match isiW G H1 x cx with
      | some b => Q (.bl b) H1
      | none => False) E := nr rfl
@[simp] theorem e_fst : wE G L (.fst a) σ H Q E = wJ G L a Str.empty σ H (fun z H1 => Q (.str z) H1) E := nr rfl
@[simp] theorem e_fmt : wE G L (.fmt a) σ H Q E = wE G L a σ H (fun x H1 => match x with
    | .str y => y.length ≤ sizeLine ∧ Q (.str y) H1
    | .int i => i.natAbs.log2 < 1920 ∧ Q (.str (toString i)) H1
    | _ => False) E := nr rfl
@[simp] theorem j_nil {acc : Str} {q : Str → HpW → Prop} : wJ G L .nil acc σ H q E = q acc H := nr rfl
@[simp] theorem j_cons {acc : Str} {q : Str → HpW → Prop} : wJ G L (.cons a r) acc σ H q E = wE G L a σ H (fun x H1 => match x with
    | .str y => acc.length + y.length ≤ sizeLine ∧ wJ G L r (acc ++ y) σ H1 q E
    | _ => False) E := nr rfl
@[simp] theorem a_nil {q : List W → HpW → Prop} : wA G L .nil σ H q E = q [] H := nr rfl
@[simp] theorem a_cons {q : List W → HpW → Prop} : wA G L (.cons a r) σ H q E = wE G L a σ H (fun x H1 => wA G L r σ H1 (fun xs H2 => q (x :: xs) H2) E) E := nr rfl
@[simp] theorem t_not {q : Bool → HpW → Prop} : wT G L (.not a) σ H q E = wT G L a σ H (fun b H1 => q (!b) H1) E := nr rfl
@[simp] theorem t_and {q : Bool → HpW → Prop} : wT G L (.and a b) σ H q E = wT G L a σ H (fun k H1 => if k = true then wT G L b σ H1 q E else q false H1) E := nr rfl
@[simp] theorem t_or {q : Bool → HpW → Prop} : wT G L (.or a b) σ H q E = wT G L a σ H (fun k H1 => if k = true then q true H1 else wT G L b σ H1 q E) E := nr rfl
@[simp] theorem t_cmp {op : CmpOp} {q : Bool → HpW → Prop} : wT G L (.cmp op a b) σ H q E = wE G L a σ H (fun x H1 => wE G L b σ H1 (fun y H2 => cmpG G L op x y H2 (fun z H3 => match z with
    | .bl k => q k H3
    | _ => False) E) E) E := nr rfl
@[simp] theorem t_tru {q : Bool → HpW → Prop} : wT G L (.tru a) σ H q E = wE G L a σ H (fun w H1 => match truW H1 w with
    | some b => q b H1
    | none => False) E := nr rfl
@[simp] theorem s_nil : wS G L .nil D σ H = D.nx σ H := nr rfl
@[simp] theorem s_cons : wS G L (.cons a r) D σ H = wS G L a { D with nx := wS G L r D } σ H := nr rfl
@[simp] theorem s_asgn : wS G L (.asg (.gn n) e) D σ H = wE G L e σ H (fun x H1 => D.nx (σ.set n (some x)) H1) (fun x H1 => D.ex x σ H1) := nr rfl
@[simp] theorem s_sets : wS G L (.sets o a e) D σ H = wE G L e σ H (fun v H1 => wE G L o σ H1 (fun x H2 => wE G L a σ H2 (fun y H3 => setsW x y v H3 fun H4 => D.nx σ H4) fun x H1 => D.ex x σ H1) fun x H1 => D.ex x σ H1) (fun x H1 => D.ex x σ H1) := nr rfl
@[simp] theorem s_expr : wS G L (.expr e) D σ H = wE G L e σ H (fun _ H1 => D.nx σ H1) (fun x H1 => D.ex x σ H1) := nr rfl
@[simp] theorem s_ret : wS G L (.ret e) D σ H = wE G L e σ H D.rt (fun x H1 => D.ex x σ H1) := nr rfl
@[simp] theorem s_retn : wS G L .retn D σ H = D.rt .non H := nr rfl
@[simp] theorem s_pass : wS G L .pass D σ H = D.nx σ H := nr rfl
@[simp] theorem s_brk : wS G L .brk D σ H = D.bk σ H := nr rfl
@[simp] theorem s_cnt : wS G L .cnt D σ H = D.ct σ H := nr rfl
@[simp] theorem s_ifs : wS G L (.ifs c a b) D σ H = wT G L c σ H (fun k H1 => if k = true then wS G L a D σ H1 else wS G L b D σ H1) (fun x H1 => D.ex x σ H1) := nr rfl
@[simp] theorem s_augs : wS G L (.augs o a .Add e) D σ H = wE G L o σ H (fun x H1 => wE G L a σ H1 (fun y H2 => idxL x y H2 fun u H3 => wE G L e σ H3 (fun z H4 => match u, z with
      | .int m, .int n => setsW x y (.int (m + n)) H4 fun H5 => D.nx σ H5
      | _, _ => False) fun x H1 => D.ex x σ H1) fun x H1 => D.ex x σ H1) (fun x H1 => D.ex x σ H1) := by
  simp only [wS]
  congr
  funext x H1
  congr
  funext y H2
  congr
  funext u H3
  congr
  funext z H4
  cases u <;> cases z <;> rfl
@[simp] theorem s_seta {f : Str} : wS G L (.seta o f e) D σ H = wE G L e σ H (fun y H1 => wE G L o σ H1 (fun x H2 => match x with
    | .ref p => (match H2 p with
      | some (.ins c fs) => (match G.cl c with
        | some ci => f ∈ ci.flds ∧ fs.length < 1000 ∧ D.nx σ (updW H2 p (.ins c (putFW f y fs)))
        | none => False)
      | _ => False)
    | _ => False) fun x H1 => D.ex x σ H1) (fun x H1 => D.ex x σ H1) := nr rfl
@[simp] theorem s_for {g it : T} : wS G L (.for_ g it b) D σ H = wI G L it σ H (fun ws gd H1 => forW (wG g) (wS G L b) D gd ws σ H1) (fun x H1 => D.ex x σ H1) := nr rfl
@[simp] theorem n_iter {R : List W → (HpW → Prop) → HpW → Prop} : wI G L (.iter e) σ H R E = wE G L e σ H (fun x H1 => iterW x H1 R) E := nr rfl
@[simp] theorem n_rng1 {R : List W → (HpW → Prop) → HpW → Prop} : wI G L (.rng1 a) σ H R E = wE G L a σ H (fun x H1 => match x with
    | .int j => (-(2 ^ 62) ≤ j ∧ j < 2 ^ 62) ∧ R ((List.range j.toNat).map fun k : Nat => .int k) (fun _ => True) H1
    | _ => False) E := nr rfl
@[simp] theorem it_s {R : List W → (HpW → Prop) → HpW → Prop} {ns : List Int} : iterW (.scr ns) H R = R (ns.map .int) (fun _ => True) H := nr rfl
@[simp] theorem it_t {R : List W → (HpW → Prop) → HpW → Prop} : iterW (.tup ws) H R = R ws (fun _ => True) H := nr rfl
@[simp] theorem it_r {R : List W → (HpW → Prop) → HpW → Prop} : iterW (.ref p) H R = (match H p with
    | some (.lst ws) => R ws (fun H' => H' p = some (.lst ws)) H
    | some (.dct kvs) => R (kvs.map fun kv => kW kv.1) (fun _ => True) (updW H p (.fdc kvs))
    | some (.fdc kvs) => R (kvs.map fun kv => kW kv.1) (fun _ => True) H
    | _ => False) := nr rfl
@[simp] theorem g_gn {q : StW → HpW → Prop} : wG (.gn n) w σ H q = q (σ.set n (some w)) H := nr rfl
@[simp] theorem e_lc {it tst : T} : wE G L (.lc e n it tst) σ H Q E = wI G L it σ H (fun ws gd H1 => ∀ D, H1 D = none → lcW (σ.set n none) n (wT G L tst) (wE G L e) D gd (fun H' => Q (.ref D) H') ws (updW H1 D (.lst []))) E := nr rfl
@[simp] theorem sg0 {o : Option W} {σ : StW} : sg (o :: σ) 0 = o := nr rfl
@[simp] theorem sgS {o : Option W} {σ : StW} : sg (o :: σ) (n + 1) = sg σ n := nr rfl
@[simp] theorem i_tup : idxW (.tup ws) (.int i) H Q = (match atI ws i with
    | some w => Q w H
    | none => False) := nr rfl
@[simp] theorem i_ref : idxW (.ref p) (.int i) H Q = (match H p with
    | some (.lst ws) => (match atI ws i with
      | some w => Q w H
      | none => False)
    | some (.dct kvs) => getW kvs (.int i) H Q
    | some (.fdc kvs) => getW kvs (.int i) H Q
    | _ => False) := by
  show (match H p with
    | some (.lst ws) => (match W.int i with
      | .int i => (match atI ws i with
        | some w => Q w H
        | none => False)
      | _ => False)
    | some (.dct kvs) => getW kvs (.int i) H Q
    | some (.fdc kvs) => getW kvs (.int i) H Q
    | _ => False) = _
  cases H p with
  | none => rfl
  | some o => cases o <;> rfl
@[simp] theorem i_refS {u : Str} : idxW (.ref p) (.str u) H Q = (match H p with
    | some (.dct kvs) => getW kvs (.str u) H Q
    | some (.fdc kvs) => getW kvs (.str u) H Q
    | _ => False) := by
  show (match H p with
    | some (.lst ws) => (match W.str u with
      | .int i => (match atI ws i with
        | some w => Q w H
        | none => False)
      | _ => False)
    | some (.dct kvs) => getW kvs (.str u) H Q
    | some (.fdc kvs) => getW kvs (.str u) H Q
    | _ => False) = _
  cases H p with
  | none => rfl
  | some o => cases o <;> rfl
@[simp] theorem i_kdc {x : Str} {tb : List (Str × W)} {k : Str} : idxW (.kdc x tb) (.str k) H Q = (match tb.lookup k with
    | some w => Q w H
    | none => False) := nr rfl
@[simp] theorem gw_s {kvs : List (Key × W)} {u : Str} : getW kvs (.str u) H Q = (match valW kvs (.inr u) with
    | some w => Q w H
    | none => False) := nr rfl
@[simp] theorem gw_i {kvs : List (Key × W)} : getW kvs (.int i) H Q = (match valW kvs (.inl i) with
    | some w => Q w H
    | none => False) := nr rfl
@[simp] theorem i_str {z : Str} : idxW (.str z) (.int i) H Q = (z.length ≤ sizeLine ∧ (match atI z.cps.toList i with
    | some c => Q (.str ⟨#[c]⟩) H
    | none => False)) := nr rfl
@[simp] theorem e_get : wE G L (.get o es) σ H Q E = wE G L o σ H (fun x H1 => isDW H1 x = true ∧ wA G L es σ H1 (fun ws H2 => getM x ws H2 Q) E) E := nr rfl
@[simp] theorem gm_k1 {x : Str} {tb : List (Str × W)} {k : Str} : getM (.kdc x tb) [.str k] H Q = Q ((tb.lookup k).getD .non) H := nr rfl
@[simp] theorem gm_k2 {x : Str} {tb : List (Str × W)} {k : Str} {d : W} : getM (.kdc x tb) [.str k, d] H Q = Q ((tb.lookup k).getD d) H := nr rfl
@[simp] theorem gm_r1 : getM (.ref p) [y] H Q = (match dctO H p with
    | some kvs => dgetW kvs y .non H Q
    | none => False) := nr rfl
@[simp] theorem gm_r2 {d : W} : getM (.ref p) [y, d] H Q = (match dctO H p with
    | some kvs => dgetW kvs y d H Q
    | none => False) := nr rfl
@[simp] theorem dg_s {kvs : List (Key × W)} {u : Str} {d : W} : dgetW kvs (.str u) d H Q = Q ((valW kvs (.inr u)).getD d) H := nr rfl
@[simp] theorem dg_i {kvs : List (Key × W)} {d : W} : dgetW kvs (.int i) d H Q = Q ((valW kvs (.inl i)).getD d) H := nr rfl
@[simp] theorem dO_d {kvs : List (Key × W)} (h : H p = some (.dct kvs)) : dctO H p = some kvs := by simp [dctO, h]
@[simp] theorem dO_f {kvs : List (Key × W)} (h : H p = some (.fdc kvs)) : dctO H p = some kvs := by simp [dctO, h]
@[simp] theorem isD_k {x : Str} {tb : List (Str × W)} : isDW H (.kdc x tb) = true := rfl
@[simp] theorem isD_d {kvs : List (Key × W)} (h : H p = some (.dct kvs)) : isDW H (.ref p) = true := by simp [isDW, h]
@[simp] theorem isD_f {kvs : List (Key × W)} (h : H p = some (.fdc kvs)) : isDW H (.ref p) = true := by simp [isDW, h]
@[simp] theorem e_dct : wE G L (.dct a) σ H Q E = ∀ p, H p = none → wPr G L a σ (updW H p (.dct [])) (fun kvs H1 => H1 p = some (.dct []) ∧ kvs.length ≤ 15 ∧ Q (.ref p) (updW H1 p (.dct (mergeW [] kvs)))) E := nr rfl
@[simp] theorem pr_nil {q : List (Key × W) → HpW → Prop} : wPr G L .nil σ H q E = q [] H := nr rfl
@[simp] theorem pr_cons {q : List (Key × W) → HpW → Prop} : wPr G L (.cons a (.cons b r)) σ H q E = wE G L a σ H (fun y H1 => wE G L b σ H1 (fun w H2 => match keyW y with
      | some z => wPr G L r σ H2 (fun kvs H3 => q ((z, w) :: kvs) H3) E
      | none => False) E) E := nr rfl
@[simp] theorem key_s {u : Str} : keyW (.str u) = some (.inr u) := nr rfl
@[simp] theorem key_i : keyW (.int i) = some (.inl i) := nr rfl
@[simp] theorem n_enum {R : List W → (HpW → Prop) → HpW → Prop} : wI G L (.enum e) σ H R E = wE G L e σ H (fun x H1 => enumW x H1 R) E := nr rfl
@[simp] theorem n_zip {R : List W → (HpW → Prop) → HpW → Prop} : wI G L (.zip a b) σ H R E = wE G L a σ H (fun x H1 => wE G L b σ H1 (fun y H2 => zipW x y H2 R) E) E := nr rfl
@[simp] theorem n_vals {R : List W → (HpW → Prop) → HpW → Prop} : wI G L (.vals e) σ H R E = wE G L e σ H (fun x H1 => dctF x H1 (fun kv => kv.2) R) E := nr rfl
@[simp] theorem n_items {R : List W → (HpW → Prop) → HpW → Prop} : wI G L (.items e) σ H R E = wE G L e σ H (fun x H1 => dctF x H1 (fun kv => .tup [kW kv.1, kv.2]) R) E := nr rfl
@[simp] theorem en_r {R : List W → (HpW → Prop) → HpW → Prop} (h : H p = some (.lst ws)) : enumW (.ref p) H R = R (enumL 0 ws) (fun H' => H' p = some (.lst ws)) H := by simp [enumW, seqG, h]
@[simp] theorem g_gt {ts : T} {q : StW → HpW → Prop} : wG (.gt ts) (.tup ws) σ H q = wGs ts ws σ H q := nr rfl
@[simp] theorem gs_nil {q : StW → HpW → Prop} : wGs .nil [] σ H q = q σ H := by simp [wGs]
@[simp] theorem gs_cons {q : StW → HpW → Prop} : wGs (.cons a r) (w :: ws) σ H q = wG a w σ H fun σ' H' => wGs r ws σ' H' q := nr rfl
@[simp] theorem s_asg {g : T} : wS G L (.asg (.gt g) e) D σ H = wE G L e σ H (fun x H1 => wG (.gt g) x σ H1 D.nx) (fun x H1 => D.ex x σ H1) := nr rfl
@[simp] theorem s_augn : wS G L (.augn n .Add e) D σ H = (match sg σ n with
    | some (.int x) => wE G L e σ H (fun y H1 => match y with
      | .int z => D.nx (σ.set n (some (.int (x + z)))) H1
      | _ => False) (fun x H1 => D.ex x σ H1)
    | _ => False) := by
  simp only [wS]
  cases h : sg σ n with
  | none => rfl
  | some v =>
    cases v <;> first | rfl | skip
    dsimp only
    congr
    funext y H1
    cases y <;> rfl
@[simp] theorem e_chn {o1 o2 : CmpOp} : wE G L (.chn o1 o2 a b c) σ H Q E = wE G L a σ H (fun x H1 => wE G L b σ H1 (fun y H2 => cmpW o1 x y H2 fun z H3 => match z with
    | .bl k => if k = true then wE G L c σ H3 (fun w H4 => cmpW o2 y w H4 Q) E else Q (.bl false) H3
    | _ => False) E) E := nr rfl
@[simp] theorem l_str {u : Str} : bltW .str [.str u] H Q = Q (.str u) H := nr rfl
@[simp] theorem l_strI : bltW .str [.int i] H Q = (i.natAbs.log2 < 14284 ∧ Q (.str (toString i)) H) := nr rfl
@[simp] theorem l_tupT : bltW .tuple [.tup ws] H Q = Q (.tup ws) H := nr rfl
@[simp] theorem l_lstT : bltW .list [.tup ws] H Q = ∀ p, H p = none → Q (.ref p) (updW H p (.lst ws)) := nr rfl
@[simp] theorem x_ind {kvs : List (Key × W)} {u : Str} (h : H p = some (.dct kvs)) : cmpW .In (.str u) (.ref p) H Q = Q (.bl (valW kvs (.inr u)).isSome) H := by
  simp [cmpW, inW, h, keyW]
@[simp] theorem x_nind {kvs : List (Key × W)} {u : Str} (h : H p = some (.dct kvs)) : cmpW .NotIn (.str u) (.ref p) H Q = Q (.bl (!(valW kvs (.inr u)).isSome)) H := by
  simp [cmpW, inW, h, keyW]
@[simp] theorem x_inf {kvs : List (Key × W)} {u : Str} (h : H p = some (.fdc kvs)) : cmpW .In (.str u) (.ref p) H Q = Q (.bl (valW kvs (.inr u)).isSome) H := by
  simp [cmpW, inW, h, keyW]
@[simp] theorem x_ninf {kvs : List (Key × W)} {u : Str} (h : H p = some (.fdc kvs)) : cmpW .NotIn (.str u) (.ref p) H Q = Q (.bl (!(valW kvs (.inr u)).isSome)) H := by
  simp [cmpW, inW, h, keyW]
@[simp] theorem l_int : bltW .int [.int i] H Q = Q (.int i) H := nr rfl
@[simp] theorem l_intS {z : Str} : bltW .int [.str z] H Q = (match PySem.intText? z with
    | some n => z.length ≤ sizeLine ∧ Q (.int n) H
    | none => False) := nr rfl
@[simp] theorem l_len : bltW .len [.ref p] H Q = (match H p with
    | some (.lst ws) => Q (.int ws.length) H
    | some (.dct kvs) => Q (.int kvs.length) H
    | some (.fdc kvs) => Q (.int kvs.length) H
    | _ => False) := by
  show (match (match H p with
    | some (.lst ws) => some ws.length
    | some (.dct kvs) => some kvs.length
    | some (.fdc kvs) => some kvs.length
    | _ => none) with
    | some n => Q (.int n) H
    | none => False) = _
  cases H p with
  | none => rfl
  | some o => cases o <;> rfl
@[simp] theorem l_lent : bltW .len [.tup ws] H Q = Q (.int ws.length) H := nr rfl
@[simp] theorem at0 {α : Type} {a : α} {l : List α} : atI (a :: l) 0 = some a := by simp [atI, ixN]
@[simp] theorem ix0 : ixN (n + 1) 0 = some 0 := by
  unfold ixN
  rw [if_pos (by omega), if_pos (by omega)]; rfl
@[simp] theorem semP_c {m : Nat} : (semP G m).c = sem G m := nr rfl
@[simp] theorem semP_i {m : Nat} : (semP G (m + 1)).i = sem G m := nr rfl
@[simp] theorem truB {k : Bool} : truW H (.bl k) = some k := by simp [truW]
theorem chr_inj {a b : Char} (h : a.toNat = b.toNat) : a = b := by
  apply Char.ext
  apply UInt32.toNat_inj.mp
  exact h
@[simp] theorem strInj {a b : String} : (Str.ofString a = Str.ofString b) = (a = b) := by
  apply propext
  refine ⟨fun h => ?_, fun h => by rw [h]⟩
  rw [Str.ofString_eq_toList, Str.ofString_eq_toList] at h
  have h1 : a.toList.map Char.toNat = b.toList.map Char.toNat := by
    have := congrArg (fun s : Str => s.cps.toList) h
    simpa using this
  have h2 : a.toList = b.toList := (List.map_inj_right (fun x y e => chr_inj e)).mp h1
  exact String.toList_inj.mp h2
@[simp] theorem lookN {α : Type} {a : Str} : List.lookup a ([] : List (Str × α)) = none := nr rfl
@[simp] theorem lookS {α : Type} {a b : String} {v : α} {l : List (Str × α)} : List.lookup (Str.ofString a) ((Str.ofString b, v) :: l) = if a = b then some v else List.lookup (Str.ofString a) l := by
  rw [List.lookup_cons]
  by_cases h : a = b
  · subst h; simp
  · rw [if_neg h]
    have : (Str.ofString a == Str.ofString b) = false := by
      rw [beq_eq_false_iff_ne]
      intro e
      rw [strInj] at e
      exact h e
    rw [this]
@[simp] theorem putN {f : Str} {v : W} : putFW f v [] = [(f, v)] := nr rfl
@[simp] theorem putC {a b : String} {v u : W} {l : List (Str × W)} : putFW (Str.ofString a) v ((Str.ofString b, u) :: l) = if b = a then (Str.ofString b, v) :: l else (Str.ofString b, u) :: putFW (Str.ofString a) v l := by
  show (if Str.ofString b = Str.ofString a then (Str.ofString b, v) :: l else (Str.ofString b, u) :: putFW (Str.ofString a) v l) = _
  simp only [strInj]
def NoAt (m : Str) (fs : List (Str × W)) : Prop := fs.lookup m = none
@[simp] theorem noN {m : Str} : NoAt m [] = True := eq_true rfl
@[simp] theorem noC {a b : String} {v : W} {l : List (Str × W)} : NoAt (Str.ofString a) ((Str.ofString b, v) :: l) = (a ≠ b ∧ NoAt (Str.ofString a) l) := by
  unfold NoAt
  rw [lookS]
  apply propext
  by_cases h : a = b <;> simp [h]
@[simp] theorem e_meth {m : Str} : wE G L (.meth o m es) σ H Q E = wE G L o σ H (fun x H1 => match x with
    | .ref p => (match H1 p with
      | some (.ins c fs) => NoAt m fs ∧ (match G.cl c with
        | some ci => (match ci.meth.lookup m with
          | some k => (match G.fn k with
            | some fi => wA G L es σ H1 (fun ws H2 => match fi.bind [] (.ref p :: ws) [] with
              | some zs => L.c k zs H2 Q E
              | none => False) E
            | none => False)
          | none => False)
        | none => False)
      | _ => False)
    | _ => False) E := nr rfl
@[simp] theorem e_mk {cn : Str} {ks : List Str} {kes : T} : wE G L (.mk cn es ks kes) σ H Q E = wA G L es σ H (fun ws H1 => wA G L kes σ H1 (fun zs H2 => match G.cl cn with
    | some ci => (match G.fn ci.init with
      | some fi => ∀ x, H2 x = none → (match fi.bind ks (.ref x :: ws) zs with
        | some us => L.i ci.init us (updW H2 x (.ins cn [])) (fun v H3 => v = .non ∧ Q (.ref x) H3) E
        | none => False)
      | none => False)
    | none => False) E) E := nr rfl
@[simp] theorem e_bm {m : Mth} : wE G L (.bm m o es) σ H Q E = wE G L o σ H (fun x H1 => rcvW m H1 x = true ∧ wA G L es σ H1 (fun ws H2 => bmW m x ws H2 Q) E) E := nr rfl
@[simp] theorem rcv_join {u : Str} : rcvW .join H (.str u) = true := rfl
theorem rcv_list {m : Mth} (hm : m.rt = "list") (h : H p = some (.lst ws)) : rcvW m H (.ref p) = true := by
  cases m <;> first | (exact absurd hm (by decide); done) | simp [rcvW, h]
@[simp] theorem rcv_ap (h : H p = some (.lst ws)) : rcvW .append H (.ref p) = true := rcv_list rfl h
@[simp] theorem rcv_pa (h : H p = some (.lst ws)) : rcvW .popAt H (.ref p) = true := rcv_list rfl h
@[simp] theorem rcv_po (h : H p = some (.lst ws)) : rcvW .pop H (.ref p) = true := rcv_list rfl h
@[simp] theorem rcv_ix (h : H p = some (.lst ws)) : rcvW .index H (.ref p) = true := rcv_list rfl h
@[simp] theorem rcv_ct (h : H p = some (.lst ws)) : rcvW .count H (.ref p) = true := rcv_list rfl h
@[simp] theorem rcv_ex (h : H p = some (.lst ws)) : rcvW .extend H (.ref p) = true := rcv_list rfl h
@[simp] theorem rcv_in (h : H p = some (.lst ws)) : rcvW .insert H (.ref p) = true := rcv_list rfl h
@[simp] theorem rcv_rv (h : H p = some (.lst ws)) : rcvW .reverse H (.ref p) = true := rcv_list rfl h
@[simp] theorem rcv_cl (h : H p = some (.lst ws)) : rcvW .clear H (.ref p) = true := rcv_list rfl h
@[simp] theorem e_lrng : wE G L (.lrng a) σ H Q E = wI G L a σ H (fun ws _ H1 => ws.length ≤ 2 ^ 24 ∧ ∀ p, H1 p = none → Q (.ref p) (updW H1 p (.lst ws))) E := nr rfl
@[simp] theorem e_slc : wE G L (.slc a b c) σ H Q E = wE G L a σ H (fun x H1 => wP G L b σ H1 (fun l H2 => wP G L c σ H2 (fun u H3 => slcW x l u H3 Q) E) E) E := nr rfl
@[simp] theorem p_nil {q : Option Int → HpW → Prop} : wP G L .nil σ H q E = q none H := nr rfl
@[simp] theorem p_opt {q : Option Int → HpW → Prop} : wP G L (.opt a) σ H q E = wE G L a σ H (fun x H1 => match x with
    | .int i => q (some i) H1
    | _ => False) E := nr rfl
@[simp] theorem a_scons {q : List W → HpW → Prop} : wA G L (.scons a r) σ H q E = wE G L a σ H (fun x H1 => seqW x H1 fun ws => wA G L r σ H1 (fun xs H2 => q (ws ++ xs) H2) E) E := nr rfl
@[simp] theorem sq_tup {q : List W → Prop} : seqW (.tup ws) H q = q ws := nr rfl
@[simp] theorem sq_ref {q : List W → Prop} : seqW (.ref p) H q = (match H p with
    | some (.lst ws) => q ws
    | _ => False) := nr rfl
@[simp] theorem e_lc2 {m k : Nat} {it tst jt tst2 : T} : wE G L (.lc2 e m it tst k jt tst2) σ H Q E = wI G L it σ H (fun ws gd H1 => ∀ D, H1 D = none → lc2W ((σ.set k none).set m none) m k (wT G L tst) (wI G L jt) (wT G L tst2) (wE G L e) D gd (fun H' => Q (.ref D) H') ws (updW H1 D (.lst []))) E := nr rfl
@[simp] theorem n_rng2 {R : List W → (HpW → Prop) → HpW → Prop} : wI G L (.rng2 a b) σ H R E = wE G L a σ H (fun x H1 => wE G L b σ H1 (fun y H2 => match x, y with
    | .int i, .int j => (-(2 ^ 62) ≤ i ∧ i < 2 ^ 62 ∧ -(2 ^ 62) ≤ j ∧ j < 2 ^ 62) ∧ R ((List.range (j - i).toNat).map fun k : Nat => .int (i + k)) (fun _ => True) H2
    | _, _ => False) E) E := nr rfl
@[simp] theorem sl_str' {z : Str} {lo hi : Option Int} : slcW (.str z) lo hi H Q = (z.length ≤ sizeLine ∧ Q (.str (cutS z lo hi)) H) := nr rfl
@[simp] theorem sl_tup' {lo hi : Option Int} : slcW (.tup ws) lo hi H Q = Q (.tup (cutW ws lo hi)) H := nr rfl
@[simp] theorem sl_ref' {lo hi : Option Int} : slcW (.ref p) lo hi H Q = (match H p with
    | some (.lst ws) => ∀ p, H p = none → Q (.ref p) (updW H p (.lst (cutW ws lo hi)))
    | _ => False) := nr rfl
@[simp] theorem m_append : bmW .append (.ref p) [w] H Q = (match H p with
    | some (.lst ws) => ws.length < sizeLine ∧ Q .non (updW H p (.lst (ws ++ [w])))
    | _ => False) := nr rfl
@[simp] theorem s_sup {d m : Str} : wS G L (.sup d m es) D σ H = (match sg σ 0 with
    | some (.ref p) => (match H p with
      | some (.ins c _) => (match G.cl c with
        | some _ => (match G.sup c d m with
          | some k => (match G.fn k with
            | some fi => wA G L es σ H (fun ws H1 => match fi.bind [] (.ref p :: ws) [] with
              | some zs => L.c k zs H1 (fun _ H2 => D.nx σ H2) fun x H2 => D.ex x σ H2
              | none => False) fun x H2 => D.ex x σ H2
            | none => False)
          | none => False)
        | none => False)
      | _ => False)
    | _ => False) := nr rfl
@[simp] theorem isi_b {k : Bool} {t : String} : isiW G H (.bl k) (.blt t) = kitB "bool" t := nr rfl
@[simp] theorem isi_i {t : String} : isiW G H (.int i) (.blt t) = kitB "int" t := nr rfl
@[simp] theorem isi_s {u : Str} {t : String} : isiW G H (.str u) (.blt t) = kitB "str" t := nr rfl
@[simp] theorem isi_n {t : String} : isiW G H .non (.blt t) = kitB "NoneType" t := nr rfl
@[simp] theorem isi_t {t : String} : isiW G H (.tup ws) (.blt t) = kitB "tuple" t := nr rfl
@[simp] theorem isNon_n : isNon .non = true := nr rfl
@[simp] theorem isNon_b {k : Bool} : isNon (.bl k) = false := nr rfl
@[simp] theorem isNon_i : isNon (.int i) = false := nr rfl
@[simp] theorem isNon_s {u : Str} : isNon (.str u) = false := nr rfl
@[simp] theorem isNon_t : isNon (.tup ws) = false := nr rfl
@[simp] theorem isNon_r : isNon (.ref p) = false := nr rfl
@[simp] theorem isBl_n {k : Bool} : isBl k .non = false := nr rfl
@[simp] theorem isBl_b {k k' : Bool} : isBl k (.bl k') = (k' == k) := nr rfl
@[simp] theorem isBl_i {k : Bool} : isBl k (.int i) = false := nr rfl
@[simp] theorem isBl_s {k : Bool} {u : Str} : isBl k (.str u) = false := nr rfl
@[simp] theorem isBl_t {k : Bool} : isBl k (.tup ws) = false := nr rfl
@[simp] theorem isBl_r {k : Bool} : isBl k (.ref p) = false := nr rfl
@[simp] theorem kit_NoneType_int : kitB "NoneType" "int" = some false := by decide +kernel
@[simp] theorem kit_NoneType_str : kitB "NoneType" "str" = some false := by decide +kernel
@[simp] theorem kit_NoneType_bool : kitB "NoneType" "bool" = some false := by decide +kernel
@[simp] theorem kit_NoneType_tuple : kitB "NoneType" "tuple" = some false := by decide +kernel
@[simp] theorem kit_NoneType_list : kitB "NoneType" "list" = some false := by decide +kernel
@[simp] theorem kit_NoneType_dict : kitB "NoneType" "dict" = some false := by decide +kernel
@[simp] theorem kit_bool_int : kitB "bool" "int" = some true := by decide +kernel
@[simp] theorem kit_bool_str : kitB "bool" "str" = some false := by decide +kernel
@[simp] theorem kit_bool_bool : kitB "bool" "bool" = some true := by decide +kernel
@[simp] theorem kit_bool_tuple : kitB "bool" "tuple" = some false := by decide +kernel
@[simp] theorem kit_bool_list : kitB "bool" "list" = some false := by decide +kernel
@[simp] theorem kit_bool_dict : kitB "bool" "dict" = some false := by decide +kernel
@[simp] theorem kit_int_int : kitB "int" "int" = some true := by decide +kernel
@[simp] theorem kit_int_str : kitB "int" "str" = some false := by decide +kernel
@[simp] theorem kit_int_bool : kitB "int" "bool" = some false := by decide +kernel
@[simp] theorem kit_int_tuple : kitB "int" "tuple" = some false := by decide +kernel
@[simp] theorem kit_int_list : kitB "int" "list" = some false := by decide +kernel
@[simp] theorem kit_int_dict : kitB "int" "dict" = some false := by decide +kernel
@[simp] theorem kit_str_int : kitB "str" "int" = some false := by decide +kernel
@[simp] theorem kit_str_str : kitB "str" "str" = some true := by decide +kernel
@[simp] theorem kit_str_bool : kitB "str" "bool" = some false := by decide +kernel
@[simp] theorem kit_str_tuple : kitB "str" "tuple" = some false := by decide +kernel
@[simp] theorem kit_str_list : kitB "str" "list" = some false := by decide +kernel
@[simp] theorem kit_str_dict : kitB "str" "dict" = some false := by decide +kernel
@[simp] theorem kit_tuple_int : kitB "tuple" "int" = some false := by decide +kernel
@[simp] theorem kit_tuple_str : kitB "tuple" "str" = some false := by decide +kernel
@[simp] theorem kit_tuple_bool : kitB "tuple" "bool" = some false := by decide +kernel
@[simp] theorem kit_tuple_tuple : kitB "tuple" "tuple" = some true := by decide +kernel
@[simp] theorem kit_tuple_list : kitB "tuple" "list" = some false := by decide +kernel
@[simp] theorem kit_tuple_dict : kitB "tuple" "dict" = some false := by decide +kernel
@[simp] theorem kit_list_int : kitB "list" "int" = some false := by decide +kernel
@[simp] theorem kit_list_str : kitB "list" "str" = some false := by decide +kernel
@[simp] theorem kit_list_bool : kitB "list" "bool" = some false := by decide +kernel
@[simp] theorem kit_list_tuple : kitB "list" "tuple" = some false := by decide +kernel
@[simp] theorem kit_list_list : kitB "list" "list" = some true := by decide +kernel
@[simp] theorem kit_list_dict : kitB "list" "dict" = some false := by decide +kernel
@[simp] theorem kit_dict_int : kitB "dict" "int" = some false := by decide +kernel
@[simp] theorem kit_dict_str : kitB "dict" "str" = some false := by decide +kernel
@[simp] theorem kit_dict_bool : kitB "dict" "bool" = some false := by decide +kernel
@[simp] theorem kit_dict_tuple : kitB "dict" "tuple" = some false := by decide +kernel
@[simp] theorem kit_dict_list : kitB "dict" "list" = some false := by decide +kernel
@[simp] theorem kit_dict_dict : kitB "dict" "dict" = some true := by decide +kernel
@[simp] theorem updS {u : O} : updW H p u p = some u := updW_same
@[simp] theorem updU {u v : O} : updW (updW H p u) p v = updW H p v := by
  funext a
  unfold updW
  split <;> rfl
@[simp] theorem fl_s {u : Str} : flatW (.str u) = true := nr rfl
@[simp] theorem fl_i : flatW (.int i) = true := nr rfl
@[simp] theorem fl_b {k : Bool} : flatW (.bl k) = true := nr rfl
@[simp] theorem fl_n : flatW .non = true := nr rfl
theorem txt_small : ∀ k : Nat, k < 1000 → (Str.ofString (toString (k : Int))).length ≤ 3 := by decide +kernel
theorem txt_le {i : Int} (h0 : 0 ≤ i) (h1 : i < 1000) : (Str.ofString (toString i)).length ≤ 3 := by
  obtain ⟨k, rfl⟩ := Int.eq_ofNat_of_zero_le h0
  exact txt_small k (by omega)
theorem log_le {i : Int} {n : Nat} (h0 : 0 ≤ i) (h1 : i < 1000) (hn : 10 ≤ n := by decide) : i.natAbs.log2 < n := by
  have h : i.natAbs < 2 ^ 10 := by omega
  by_cases hz : i.natAbs = 0
  · rw [hz]
    have : Nat.log2 0 = 0 := by decide
    omega
  · have := (Nat.log2_lt hz).mpr h
    omega
@[simp] theorem sApp {a b : Str} : (a ++ b).length = a.length + b.length := Str.length_append a b
@[simp] theorem sEmp : Str.empty.length = 0 := nr rfl
@[simp] theorem s_rse {cn : Str} : wS G L (.rse cn e) D σ H = (match G.exn cn with
    | some xi => (match xi.init with
      | none => wE G L e σ H (fun _ H1 => D.ex ⟨.own cn, []⟩ σ H1) fun x H1 => D.ex x σ H1
      | some _ => False)
    | none => False) := nr rfl
@[simp] theorem s_rsx {cn : Str} : wS G L (.rsx cn es) D σ H = wA G L es σ H (fun ws H1 => match G.exn cn with
    | some xi => ws.length = xi.ar ∧ SzK ws.length ∧ (match fldsOf ws xi.fl [] with
      | some fs => D.ex ⟨.own cn, fs⟩ σ H1
      | none => False)
    | none => False) (fun x H1 => D.ex x σ H1) := nr rfl
@[simp] theorem s_tryo {cs : List XC} : wS G L (.tryo a cs b) D σ H = wS G L a { D with ex := fun x σ' H' => match exmW G x.cls cs with
      | some true => wS G (Lv.off none) b { D with ex := fun _ _ _ => False } σ' H'
      | some false => D.ex x σ' H'
      | none => False } σ H := nr rfl
@[simp] theorem s_trya {cs : List XC} {m : Nat} : wS G L (.trya a cs m b) D σ H = wS G L a { D with ex := fun x σ' H' => match exmW G x.cls cs with
      | some true => (match x.fs with
        | [] => ∀ a, H' a = none → wS G (Lv.off (some (a, x.cls, none))) b (asEnds m D) (σ'.set m (some (.ref a))) H'
        | _ => ∀ a dd, H' a = none → H' dd = none → a ≠ dd → wS G (Lv.off (some (a, x.cls, some dd))) b (asEnds m D) (σ'.set m (some (.ref a))) (updW H' dd (.xd x.fs)))
      | some false => D.ex x σ' H'
      | none => False } σ H := nr rfl
@[simp] theorem s_trym : wS G L (.trym a b) D σ H = wS G L a { D with ex := fun x σ' H' => wH G L b D x σ' H' } σ H := nr rfl
@[simp] theorem h_nil {x : Ex} : wH G L .nil D x σ H = D.ex x σ H := nr rfl
@[simp] theorem h_cons {c : XC} {oi : Option Nat} {x : Ex} : wH G L (.cons (.hnd c oi a) r) D x σ H = (match G.exm x.cls c with
    | some true => (match oi with
      | none => wS G (Lv.off none) a { D with ex := fun _ _ _ => False } σ H
      | some i => (match x.fs with
        | [] => ∀ p, H p = none → wS G (Lv.off (some (p, x.cls, none))) a (asEnds i D) (σ.set i (some (.ref p))) H
        | _ => ∀ p dd, H p = none → H dd = none → p ≠ dd → wS G (Lv.off (some (p, x.cls, some dd))) a (asEnds i D) (σ.set i (some (.ref p))) (updW H dd (.xd x.fs))))
    | some false => wH G L r D x σ H
    | none => False) := nr rfl
@[simp] theorem e_xf {m : Nat} {f : Str} : wE G L (.xf m f) σ H Q E = (match sg σ m, L.x with
    | some (.ref a), some (a', .own c, some dd) => a = a' ∧ (match G.exn c, H dd with
      | some xi, some (.xd fs) => xi.init.isSome = true ∧ f ∈ xi.fl.map (·.1) ∧ (match fs.lookup f with
        | some w => Q w H
        | none => False)
      | _, _ => False)
    | _, _ => False) := nr rfl
@[simp] theorem e_xis2 {m : Nat} {cx cy : XC} : wE G L (.xis2 m cx cy) σ H Q E = (match sg σ m, L.x with
    | some (.ref a), some (a', .own k, d) => a = a' ∧ (∀ dd, d = some dd → ∃ fs, H dd = some (.xd fs)) ∧ (match G.exn k with
      | some _ => (match G.isa k cx, G.isa k cy with
        | some b, some b' => Q (.bl (b || b')) H
        | _, _ => False)
      | none => False)
    | _, _ => False) := nr rfl
@[simp] theorem e_xis {m : Nat} {cx : XC} : wE G L (.xis m cx) σ H Q E = (match sg σ m, L.x with
    | some (.ref a), some (a', .own k, d) => a = a' ∧ (∀ dd, d = some dd → ∃ fs, H dd = some (.xd fs)) ∧ (match G.exn k with
      | some _ => (match G.isa k cx with
        | some b => Q (.bl b) H
        | none => False)
      | none => False)
    | _, _ => False) := nr rfl
@[simp] theorem exm1 {x c : XC} : exmW G x [c] = G.exm x c := by
  unfold exmW
  cases h : G.exm x c with
  | none => rfl
  | some b => cases b <;> rfl
@[simp] theorem asE_nx {m : Nat} : (asEnds m D).nx σ H = D.nx (σ.set m none) H := nr rfl
@[simp] theorem asE_rt {m : Nat} : (asEnds m D).rt = D.rt := nr rfl
@[simp] theorem asE_ex {m : Nat} {x : Ex} : (asEnds m D).ex x σ H = False := nr rfl
@[simp] theorem e_callk {k : Str} {ks : List Str} {kes : T} : wE G L (.callk k es ks kes) σ H Q E = wA G L es σ H (fun ws H1 => wA G L kes σ H1 (fun us H2 => match G.fn k with
    | some fi => (match fi.bind ks ws us with
      | some zs => L.c k zs H2 Q E
      | none => False)
    | none => False) E) E := nr rfl
@[simp] theorem b_rep {u : Str} : binW .Mult (.str u) (.int j) H Q = ((u.length ≤ 1000 ∧ 0 ≤ j ∧ j ≤ 1000) ∧ Q (.str (repS u j.toNat)) H) := nr rfl
@[simp] theorem b_catL {p' : Addr} : binW .Add (.ref p) (.ref p') H Q = (∃ xs ys, H p = some (.lst xs) ∧ H p' = some (.lst ys) ∧ xs.length + ys.length ≤ sizeLine ∧ ∀ p, H p = none → Q (.ref p) (updW H p (.lst (xs ++ ys)))) := nr rfl
@[simp] theorem b_catT {ws' : List W} : binW .Add (.tup ws) (.tup ws') H Q = (ws.length + ws'.length ≤ sizeLine ∧ Q (.tup (ws ++ ws')) H) := nr rfl
@[simp] theorem b_pow : binW .Pow (.int i) (.int j) H Q = (CPow i j ∧ Q (.int (i ^ j.toNat)) H) := nr rfl
@[simp] theorem b_shl : binW .LShift (.int i) (.int j) H Q = (CPow i j ∧ Q (.int (i * 2 ^ j.toNat)) H) := nr rfl
@[simp] theorem b_shr : binW .RShift (.int i) (.int j) H Q = (0 ≤ j ∧ Q (.int (i / 2 ^ j.toNat)) H) := nr rfl
@[simp] theorem b_and : binW .BitAnd (.int i) (.int j) H Q = Q (.int (Builtin.bitAnd i j)) H := nr rfl
@[simp] theorem b_or : binW .BitOr (.int i) (.int j) H Q = Q (.int (Builtin.bitOr i j)) H := nr rfl
end
end Uw

namespace Uw
open PySem PySem.Spec PyProof.Rows L2
/-! ### reading a def -/
theorem sem_fn {G : GT} {n : Nat} {k : Str} {fi : FnI} {ws : List W} {H : HpW} {Q : QW} {E : EW} (hf : G.fn k = some fi) (hl : ws.length = fi.ps.length) (h : wS G (semP G n) fi.body (fnEnds Q E) (ws.map some ++ List.replicate (fi.nv - ws.length) none) H) : sem G (n + 1) k ws H Q E := by
  show fnW G (semP G n) k ws H Q E
  unfold fnW
  rw [hf]
  exact ⟨hl, h⟩
/-! ### loops -/
theorem forW_ind {g : W → StW → HpW → (StW → HpW → Prop) → Prop} {body : TSW} {D : EndsW} {gd : HpW → Prop} (I : List W → StW → HpW → Prop) (hend : ∀ σ H, I [] σ H → gd H ∧ D.nx σ H)
    (hstep : ∀ w ws σ H (K : StW → HpW → Prop), I (w :: ws) σ H → (∀ σ H, I ws σ H → K σ H) → gd H ∧ g w σ H fun σ' H' => body { D with nx := K, ct := K, bk := D.nx } σ' H') :
    ∀ {ws : List W} {σ : StW} {H : HpW}, I ws σ H → forW g body D gd ws σ H
  | [], σ, H, h => hend σ H h
  | w :: ws, σ, H, h => hstep w ws σ H _ h fun σ H h => forW_ind I hend hstep h
theorem whlW_ind {t : TTW} {b : TSW} {D : EndsW} (I : Nat → StW → HpW → Prop)
    (hstep : ∀ m σ H (K : StW → HpW → Prop), I m σ H → (∀ m' σ H, m' < m → I m' σ H → K σ H) → t σ H (fun k H1 => if k = true then b { D with nx := K, ct := K, bk := D.nx } σ H1 else D.nx σ H1) fun x H1 => D.ex x σ H1) {m : Nat} {σ : StW} {H : HpW} (h : I m σ H) : ∃ n, whlW t b D n σ H := by
  have key : ∀ n m σ H, m < n → I m σ H → whlW t b D n σ H := by
    intro n
    induction n with
    | zero => intro m σ H hm; omega
    | succ n ih => exact fun m σ H hm hi => hstep m σ H _ hi fun m' σ' H' hm' hi' => ih m' σ' H' (by omega) hi'
  exact ⟨m + 1, key (m + 1) m σ H (Nat.lt_succ_self m) h⟩
theorem lcW_ind {σ : StW} {i : Nat} {tt : TTW} {te : TEW} {D : Addr} {gd Q : HpW → Prop} (I : List W → HpW → Prop) (hend : ∀ H, I [] H → gd H ∧ Q H)
    (hstep : ∀ w ws H (K : HpW → Prop), I (w :: ws) H → (∀ H, I ws H → K H) → gd H ∧ tt (σ.set i (some w)) H (fun b H3 => if b = true then te (σ.set i (some w)) H3 (fun y H4 => ∃ acc, H4 D = some (.lst acc) ∧ acc.length < sizeLine ∧ K (updW H4 D (.lst (acc ++ [y])))) (fun _ _ => False)
      else K H3) fun _ _ => False) : ∀ {ws : List W} {H : HpW}, I ws H → lcW σ i tt te D gd Q ws H
  | [], H, h => hend H h
  | w :: ws, H, h => hstep w ws H _ h fun H h => lcW_ind I hend hstep h
/-! ### the draws -/
structure DS (H : HpW) (st q : Addr) : Prop where
  ne : st ≠ q
  ex : ∃ (ns : List Int) (c s k : Int), H st = some (.lst [.ref q, .int c, .int s, .int k]) ∧ H q = some (.lst (ns.map .int))
def Off (st q : Addr) (H H' : HpW) : Prop := ∀ a, a ≠ st → a ≠ q → H' a = H a
def tDrawB : T := .cons (.asg (.gn 2) (.bm .popAt (.idx (.var 0) (.int 0)) (.cons (.int 0) .nil))) (.cons (.sets (.var 0) (.int 1) (.ite (.cmp .Gt (.var 2) (.int 0)) (.var 2) (.neg (.var 2)))) .nil)
def tDrawC : T := .and (.cmp .Lt (.idx (.var 0) (.int 1)) (.int 2)) (.cmp .Gt (.blt .len (.cons (.idx (.var 0) (.int 0)) .nil)) (.int 0))
def tDrawD : T := .cons (.asg (.gn 3) (.bin .Mod (.blt .int (.cons (.idx (.var 0) (.int 1)) .nil)) (.var 1))) (.cons (.sets (.var 0) (.int 1) (.bin .FloorDiv (.idx (.var 0) (.int 1)) (.var 1))) (.cons (.ret (.var 3)) .nil))
def tDraw6 : T := .cons (.ret (.bin .Mod (.blt .int (.cons (.bin .FloorDiv (.var 4) (.int 8)) .nil)) (.var 1))) .nil
def tDraw5 : T := .cons (.asg (.gn 4) (.bin .Mod (.blt .int (.cons (.bin .Add (.bin .Mult (.var 4) (.int 48271)) (.bin .Mult (.idx (.var 0) (.int 3)) (.int 69621))) .nil)) (.int 2147483647))) tDraw6
def tDraw4 : T := .cons (.asg (.gn 4) (.bin .Mod (.blt .int (.cons (.bin .Mult (.var 4) (.var 4)) .nil)) (.int 1000000007))) tDraw5
def tDraw3 : T := .cons (.augs (.var 0) (.int 3) .Add (.int 1)) (.cons (.asg (.gn 4) (.bin .Mod (.blt .int (.cons (.bin .Add (.idx (.var 0) (.int 2)) (.bin .Mult (.idx (.var 0) (.int 3)) (.int 7919))) .nil)) (.int 998244353))) tDraw4)
def tDraw2 : T := .cons (.ifs (.cmp .Gt (.idx (.var 0) (.int 1)) (.int 1)) tDrawD .nil) tDraw3
def tDraw1 : T := .cons (.whl tDrawC tDrawB) tDraw2
def tDraw : T := .cons (.ifs (.cmp .Lt (.var 1) (.int 2)) (.cons (.ret (.int 0)) .nil) .nil) tDraw1
@[simp] theorem at41 {α : Type} (a b c d : α) : atI [a, b, c, d] 1 = some b := rfl
@[simp] theorem at42 {α : Type} (a b c d : α) : atI [a, b, c, d] 2 = some c := rfl
@[simp] theorem at43 {α : Type} (a b c d : α) : atI [a, b, c, d] 3 = some d := rfl
@[simp] theorem ix41 : ixN 4 1 = some 1 := rfl
@[simp] theorem ix43 : ixN 4 3 = some 3 := rfl
theorem Off.refl {st q : Addr} {H : HpW} : Off st q H H := fun _ _ _ => rfl
theorem Off.st {st q : Addr} {H H1 : HpW} {o : O} (h : Off st q H H1) : Off st q H (updW H1 st o) := fun a h1 h2 => by rw [updW_ne h1]; exact h a h1 h2
theorem Off.q {st q : Addr} {H H1 : HpW} {o : O} (h : Off st q H H1) : Off st q H (updW H1 q o) := fun a h1 h2 => by rw [updW_ne h2]; exact h a h1 h2
theorem Off.trans {st q : Addr} {H H1 H2 : HpW} (h : Off st q H H1) (h' : Off st q H1 H2) : Off st q H H2 := fun a h1 h2 => (h' a h1 h2).trans (h a h1 h2)
section
variable {G : GT} {L : Lv}
theorem draw_loop {st q : Addr} {many : Int} {H : HpW} {D : EndsW} (d : DS H st q) (a x3 x4 : Option W) (h : ∀ H' a, DS H' st q → Off st q H H' → D.nx [some (.ref st), some (.int many), a, x3, x4] H') : wS G L (.whl tDrawC tDrawB) D [some (.ref st), some (.int many), a, x3, x4] H := by
  show ∃ n, whlW (wT G L tDrawC) (wS G L tDrawB) D n _ H
  obtain ⟨ne, ns, cc, s, k, e1, e2⟩ := d
  refine whlW_ind (I := fun m σ H1 => ∃ a ns c s k, m = ns.length ∧ σ = [some (.ref st), some (.int many), a, x3, x4] ∧ H1 st = some (.lst [.ref q, .int c, .int s, .int k]) ∧ H1 q = some (.lst (ns.map .int)) ∧ Off st q H H1) ?_ (m := ns.length) ⟨a, ns, cc, s, k, rfl, rfl, e1, e2, .refl⟩
  rintro m σ H1 K ⟨a, ns, c, s, k, rfl, rfl, e1, e2, off⟩ hK
  have fin : D.nx [some (.ref st), some (.int many), a, x3, x4] H1 := h H1 a ⟨ne, ns, c, s, k, e1, e2⟩ off
  simp only [tDrawC]
  by_cases hc : c < 2
  · cases ns with
    | nil => simpa [e1, e2, hc] using fin
    | cons x ns =>
      have go : ∀ z : Int, K [some (.ref st), some (.int many), some (.int x), x3, x4] (updW (updW H1 q (.lst (ns.map .int))) st (.lst [.ref q, .int z, .int s, .int k])) := fun z =>
        hK ns.length _ _ (by simp) ⟨some (.int x), ns, z, s, k, rfl, rfl, updW_same, by rw [updW_ne (Ne.symm ne)]; exact updW_same, off.q.st⟩
      by_cases hx : 0 < x
      · simpa [tDrawB, e1, e2, hc, bmW, setsW, updW_ne ne, hx] using go x
      · simpa [tDrawB, e1, e2, hc, bmW, setsW, updW_ne ne, hx] using go (-x)
  · simpa [e1, e2, hc] using fin
theorem mulOk_l {i j : Int} (h1 : -(2 ^ 64) < i) (h2 : i < 2 ^ 64) : MulOk i j := .inl (.inl ⟨h1, h2⟩)
theorem mulOk_r {i j : Int} (h1 : -(2 ^ 64) < j) (h2 : j < 2 ^ 64) : MulOk i j := .inl (.inr ⟨h1, h2⟩)
theorem modR (i : Int) {j : Int} (h : 0 < j) : 0 ≤ i % j ∧ i % j < j := ⟨Int.emod_nonneg _ (by omega), Int.emod_lt_of_pos _ h⟩
/-- the end of a draw: a def's return -/
theorem draw_rest {st q : Addr} {many : Int} {H : HpW} {Q : QW} {E : EW} (hm : 2 ≤ many) (hm2 : many < 1073741824 ∨ many.natAbs.log2 < 9000) (d : DS H st q) (a b c : Option W) (h : ∀ r H', 0 ≤ r → r < many → DS H' st q → Off st q H H' → Q (.int r) H') :
    wS G L tDraw2 (fnEnds Q E) [some (.ref st), some (.int many), a, b, c] H := by
  obtain ⟨ne, ns, cc, s, k, e1, e2⟩ := d
  have hm0 : 0 < many := by omega
  have ret : ∀ r H', 0 ≤ r → r < many → DS H' st q → Off st q H H' → (fnEnds Q E).rt (.int r) H' := fun r H' h1 h2 h3 h4 => ⟨H', Sub.refl, h r H' h1 h2 h3 h4⟩
  by_cases hc : 1 < cc
  · have := ret (cc % many) (updW H st (.lst [.ref q, .int (cc / many), .int s, .int k])) (modR cc hm0).1 (modR cc hm0).2 ⟨ne, ns, _, s, k, updW_same, by rw [updW_ne (Ne.symm ne)]; exact e2⟩ Off.refl.st
    simpa [tDraw2, tDrawD, e1, hc, setsW, hm0, hm2] using this
  · have go : ∀ v : Int, (fnEnds Q E).rt (.int (v / 8 % many)) (updW H st (.lst [.ref q, .int cc, .int s, .int (k + 1)])) := fun v =>
      ret _ _ (modR _ hm0).1 (modR _ hm0).2 ⟨ne, ns, _, s, _, updW_same, by rw [updW_ne (Ne.symm ne)]; exact e2⟩ Off.refl.st
    have m1 : ∀ v : Int, MulOk v 7919 := fun v => mulOk_r (by decide) (by decide)
    have m2 : ∀ v : Int, MulOk v 69621 := fun v => mulOk_r (by decide) (by decide)
    have m3 : ∀ v : Int, MulOk v 48271 := fun v => mulOk_r (by decide) (by decide)
    have m4 : ∀ v : Int, MulOk (v % 998244353) (v % 998244353) := fun v => mulOk_l (by have := modR v (j := 998244353) (by decide); omega) (by have := modR v (j := 998244353) (by decide); omega)
    simpa [tDraw2, tDraw3, tDraw4, tDraw5, tDraw6, e1, hc, setsW, idxL, hm0, m1, m2, m3, m4, updW_same] using go _
theorem sp_draw {n : Nat} {fi : FnI} (hf : G.fn "_law_draw" = some fi) (hp : fi.ps.length = 2) (hv : fi.nv = 5) (hb : fi.body = tDraw) {st q : Addr} {many : Int} {H : HpW} {Q : QW} {E : EW} (hm2 : many < 1073741824 ∨ many.natAbs.log2 < 9000) (d : DS H st q)
    (h : ∀ r H', 0 ≤ r → (r < many ∨ (many < 2 ∧ r = 0)) → DS H' st q → Off st q H H' → Q (.int r) H') : sem G (n + 1) "_law_draw" [.ref st, .int many] H Q E := by
  refine sem_fn hf (by rw [hp]; rfl) ?_
  rw [hb, hv]
  show wS G (semP G n) tDraw (fnEnds Q E) [some (.ref st), some (.int many), none, none, none] H
  by_cases hc : many < 2
  · have : (fnEnds Q E).rt (.int 0) H := ⟨H, Sub.refl, h 0 H (Int.le_refl _) (.inr ⟨hc, rfl⟩) d .refl⟩
    simpa [tDraw, hc] using this
  · have key : wS G (semP G n) tDraw1 (fnEnds Q E) [some (.ref st), some (.int many), none, none, none] H := by
      unfold tDraw1
      rw [s_cons]
      exact draw_loop d none none none fun H' a d' o' => draw_rest (by omega) hm2 d' a none none fun r H2 h1 h2 d2 o2 => h r H2 h1 (.inl h2) d2 (o'.trans o2)
    simpa [tDraw, hc] using key
def tDrawsB : T := .cons (.asg (.gn 1) (.bin .Mod (.blt .int (.cons (.bin .Add (.bin .Add (.bin .Mult (.var 1) (.int 1000003)) (.bin .Mult (.var 2) (.int 7919))) (.int 1)) .nil)) (.int 998244353))) .nil
def tDrawsE : T := .cons (.ret (.lst (.cons (.lc (.blt .int (.cons (.var 2) .nil)) 2 (.iter (.var 0)) (.tru (.bl true))) (.cons (.int 0) (.cons (.var 1) (.cons (.int 0) .nil)))))) .nil
def tDraws : T := .cons (.asg (.gn 1) (.int 7)) (.cons (.for_ (.gn 2) (.iter (.var 0)) tDrawsB) tDrawsE)
theorem sp_draws {n : Nat} {fi : FnI} (hf : G.fn "_law_draws" = some fi) (hp : fi.ps.length = 1) (hv : fi.nv = 3) (hb : fi.body = tDraws) {ns : List Int} (hn : ns.length ≤ 63) {H : HpW} {Q : QW} {E : EW}
    (h : ∀ st q H', H st = none → H q = none → DS H' st q → Off st q H H' → Q (.ref st) H') : sem G (n + 1) "_law_draws" [.scr ns] H Q E := by
  refine sem_fn hf (by rw [hp]; rfl) ?_
  rw [hb, hv]
  show wS G (semP G n) tDraws (fnEnds Q E) [some (.scr ns), none, none] H
  simp only [tDraws, s_cons, s_asgn, e_int, s_for, n_iter, e_var, sg0, List.set, it_s]
  refine forW_ind (I := fun ws σ H1 => H1 = H ∧ (∃ xs : List Int, ws = xs.map .int) ∧ ∃ (s : Int) (o : Option W), σ = [some (.scr ns), some (.int s), o] ∧ 0 ≤ s ∧ s < 998244353) ?_ ?_ ⟨rfl, ⟨ns, rfl⟩, 7, none, rfl, by decide, by decide⟩
  · rintro σ H1 ⟨rfl, _, s, o, rfl, h0, h1⟩
    refine ⟨trivial, ?_⟩
    dsimp only
    simp only [tDrawsE, s_cons, s_ret, e_lst, a_cons, e_lc, n_iter, e_var, sg0, it_s]
    intro q hq
    refine lcW_ind (I := fun ws H2 => ∃ done : List Int, done.map .int ++ ws = ns.map W.int ∧ H2 = updW H1 q (.lst (done.map .int))) ?_ ?_ ⟨[], rfl, rfl⟩
    · rintro H2 ⟨done, hd, rfl⟩
      rw [List.append_nil] at hd
      refine ⟨trivial, ?_⟩
      simp only [e_int, e_var, a_cons, a_nil, sg0, sgS]
      refine ⟨by simp, fun st hst => ?_⟩
      have hst' : st ≠ q := fun e => by rw [e, updW_same] at hst; cases hst
      rw [updW_ne hst'] at hst
      refine ⟨_, Sub.refl, h st q _ hst hq ⟨hst', done, 0, s, 0, updW_same, by rw [updW_ne (Ne.symm hst')]; exact updW_same⟩ Off.refl.q.st⟩
    · rintro w ws H2 K ⟨done, hd, rfl⟩ hK
      have hw : ∃ x : Int, w = .int x := by
        have : w ∈ ns.map W.int := by rw [← hd]; simp
        obtain ⟨x, _, e⟩ := List.mem_map.mp this
        exact ⟨x, e.symm⟩
      obtain ⟨x, rfl⟩ := hw
      have hl : done.length < 63 := by
        have := congrArg List.length hd
        simp at this
        omega
      have := hK (updW H1 q (.lst ((done ++ [x]).map .int))) ⟨done ++ [x], by rw [← hd]; simp, rfl⟩
      refine ⟨trivial, ?_⟩
      simp only [t_tru, e_bl, truB, if_true, e_blt, a_cons, a_nil, e_var, List.set, sg0, sgS, l_int]
      refine ⟨done.map .int, updW_same, by rw [List.length_map]; exact Nat.lt_trans hl (by decide), ?_⟩
      have e : updW (updW H1 q (.lst (done.map W.int))) q (.lst (done.map W.int ++ [.int x])) = updW H1 q (.lst ((done ++ [x]).map W.int)) := by
        funext a
        unfold updW
        split
        · simp
        · rfl
      rw [e]; exact this
  · rintro w ws σ H1 K ⟨rfl, ⟨xs, hx⟩, s, o, rfl, h0, h1⟩ hK
    cases xs with
    | nil => cases hx
    | cons x xs =>
      cases hx
      refine ⟨trivial, ?_⟩
      have m1 : MulOk s 1000003 := mulOk_r (by decide) (by decide)
      have m2 : MulOk x 7919 := mulOk_r (by decide) (by decide)
      have := hK [some (.scr ns), some (.int ((s * 1000003 + x * 7919 + 1) % 998244353)), some (.int x)] H1 ⟨rfl, ⟨xs, rfl⟩, _, _, rfl, modR _ (by decide)⟩
      simpa [tDrawsB, m1, m2] using this
theorem DS.ne_st {H : HpW} {st q p : Addr} (d : DS H st q) (h : H p = none) : p ≠ st ∧ p ≠ q := by
  obtain ⟨ne, ns, c, s, k, e1, e2⟩ := d
  refine ⟨fun e => ?_, fun e => ?_⟩
  · rw [e, e1] at h; cases h
  · rw [e, e2] at h; cases h
theorem DS.upd {H : HpW} {st q p : Addr} {o : O} (d : DS H st q) (h1 : p ≠ st) (h2 : p ≠ q) : DS (updW H p o) st q := by
  obtain ⟨ne, ns, c, s, k, e1, e2⟩ := d
  exact ⟨ne, ns, c, s, k, by rw [updW_ne (Ne.symm h1)]; exact e1, by rw [updW_ne (Ne.symm h2)]; exact e2⟩
theorem DS.keep {H H' : HpW} {st q p : Addr} (d : DS H st q) (h1 : p ≠ st) (h2 : p ≠ q) (h : ∀ a, a ≠ p → H' a = H a) : DS H' st q := by
  obtain ⟨ne, ns, c, s, k, e1, e2⟩ := d
  exact ⟨ne, ns, c, s, k, by rw [h _ (Ne.symm h1)]; exact e1, by rw [h _ (Ne.symm h2)]; exact e2⟩
end
end Uw

namespace Uw
open PySem PySem.Spec PyProof.Rows L2
theorem ends_rt {Q : QW} {E : EW} {w : W} {H : HpW} (h : Q w H) : (fnEnds Q E).rt w H := ⟨H, Sub.refl, h⟩
theorem ends_rs {Q : QW} {E : EW} {w : W} {H H' : HpW} (s : Sub H H') (h : Q w H) : (fnEnds Q E).rt w H' := ⟨H, s, h⟩
theorem ends_nx {Q : QW} {E : EW} {σ : StW} {H : HpW} (h : Q .non H) : (fnEnds Q E).nx σ H := ⟨H, Sub.refl, h⟩
theorem ends_ns {Q : QW} {E : EW} {σ : StW} {H H' : HpW} (s : Sub H H') (h : Q .non H) : (fnEnds Q E).nx σ H' := ⟨H, s, h⟩
theorem ends_ex {Q : QW} {E : EW} {x : Ex} {σ : StW} {H : HpW} (h : E x H) : (fnEnds Q E).ex x σ H := ⟨H, Sub.refl, h⟩
theorem ends_xs {Q : QW} {E : EW} {x : Ex} {σ : StW} {H H' : HpW} (s : Sub H H') (h : E x H) : (fnEnds Q E).ex x σ H' := ⟨H, s, h⟩
theorem sem_ev {G : GT} {fi : FnI} {n : Nat} {k : Str} {ws : List W} {H : HpW} {Q : QW} {E : EW} {t : T} {m : Nat} (hf : G.fn k = some fi) (hl : ws.length = fi.ps.length) (hb : fi.body = t) (hv : fi.nv = m) (h : wS G (semP G n) t (fnEnds Q E) (ws.map some ++ List.replicate (m - ws.length) none) H) : sem G (n + 1) k ws H Q E := by
  subst hb hv
  exact sem_fn hf hl h
/-! ### what is known of the heap, beside the draws' state -/
structure Kn (K H : HpW) (st q : Addr) : Prop where
  sub : Sub K H
  ds : DS H st q
  k1 : K st = none
  k2 : K q = none
section
variable {K H H' : HpW} {st q p : Addr} {o o' : O}
theorem Kn.draw (s : Kn K H st q) (d : DS H' st q) (h : Off st q H H') : Kn K H' st q :=
  ⟨fun a u e => by rw [h a (fun z => by rw [z, s.k1] at e; cases e) (fun z => by rw [z, s.k2] at e; cases e)]; exact s.sub a u e, d, s.k1, s.k2⟩
theorem Kn.free (s : Kn K H st q) (h : H p = none) : K p = none := by
  cases e : K p with
  | none => rfl
  | some o => rw [s.sub p o e] at h; cases h
theorem Kn.new (s : Kn K H st q) (h : H p = none) : Kn (updW K p o) (updW H p o) st q := by
  obtain ⟨h1, h2⟩ := s.ds.ne_st h
  refine ⟨fun a u e => ?_, s.ds.upd h1 h2, by rw [updW_ne (Ne.symm h1)]; exact s.k1, by rw [updW_ne (Ne.symm h2)]; exact s.k2⟩
  by_cases ea : a = p
  · subst ea; rw [updW_same] at e ⊢; exact e
  · rw [updW_ne ea] at e ⊢; exact s.sub a u e
theorem Kn.put (s : Kn K H st q) (h : K p = some o') : Kn (updW K p o) (updW H p o) st q := by
  have h1 : p ≠ st := fun z => by rw [z, s.k1] at h; cases h
  have h2 : p ≠ q := fun z => by rw [z, s.k2] at h; cases h
  refine ⟨fun a u e => ?_, s.ds.upd h1 h2, by rw [updW_ne (Ne.symm h1)]; exact s.k1, by rw [updW_ne (Ne.symm h2)]; exact s.k2⟩
  by_cases ea : a = p
  · subst ea; rw [updW_same] at e ⊢; exact e
  · rw [updW_ne ea] at e ⊢; exact s.sub a u e
theorem sub_none {K' : HpW} {a : Addr} (h : Sub K' K) (e : K a = none) : K' a = none := by
  cases e' : K' a with
  | none => rfl
  | some o => rw [h _ _ e'] at e; cases e
theorem Kn.less {K' : HpW} (s : Kn K H st q) (h : Sub K' K) : Kn K' H st q := ⟨h.trans s.sub, s.ds, sub_none h s.k1, sub_none h s.k2⟩
/-- a call that changes nothing that stood -/
theorem Kn.drawS (s : Kn K H st q) (h : Sub H H') : Kn K H' st q := by
  obtain ⟨ne, ns, c, z, k, e1, e2⟩ := s.ds
  exact ⟨s.sub.trans h, ⟨ne, ns, c, z, k, h _ _ e1, h _ _ e2⟩, s.k1, s.k2⟩
/-- a new object that is forgotten -/
theorem Kn.new0 (s : Kn K H st q) (h : H p = none) : Kn K (updW H p o) st q := (s.new h).less (Sub.new (s.free h))
theorem sub_upd {H H1 : HpW} {p : Addr} {o : O} (s : Sub H H1) (h : H p = none) : Sub H (updW H1 p o) := fun a u e => by
  have : a ≠ p := by rintro rfl; rw [h] at e; cases e
  rw [updW_ne this]; exact s a u e
theorem sub_free {H H1 : HpW} {p : Addr} (s : Sub H H1) (h : H1 p = none) : H p = none := by
  cases e : H p with
  | none => rfl
  | some o => rw [s p o e] at h; cases h
theorem upd_none {H : HpW} {p r : Addr} {o : O} (h : updW H p o r = none) : r ≠ p ∧ H r = none := by
  have : r ≠ p := by rintro rfl; rw [updW_same] at h; cases h
  exact ⟨this, by rw [updW_ne this] at h; exact h⟩
theorem sub_one {K' : HpW} {x : Addr} {o : O} (h : K' x = some o) : Sub (updW (fun _ => none) x o) K' := fun b u e => by
  by_cases hb : b = x
  · subst hb; rw [updW_same] at e; cases e; exact h
  · rw [updW_ne hb] at e; cases e
/-- p is new: what stood stands -/
theorem sub_new {H H1 : HpW} {p : Addr} {o : O} (s : Sub H H1) (h : H1 p = none) : Sub H (updW H1 p o) := sub_upd s (sub_free s h)
end
section
variable {G : GT}
/-- the draws, over what is known -/
theorem kn_draws {n : Nat} {fi : FnI} (hf : G.fn "_law_draws" = some fi) (hp : fi.ps.length = 1) (hv : fi.nv = 3) (hb : fi.body = tDraws) {ns : List Int} (hn : ns.length ≤ 63) {Q : QW} {E : EW}
    (h : ∀ st q H', Kn (fun _ => none) H' st q → Q (.ref st) H') : sem G (n + 1) "_law_draws" [.scr ns] (fun _ => none) Q E :=
  sp_draws hf hp hv hb hn fun st q H' _ _ d _ => h st q H' ⟨fun _ _ e => (nomatch e), d, rfl, rfl⟩
theorem kn_draw {n : Nat} {fi : FnI} (hf : G.fn "_law_draw" = some fi) (hp : fi.ps.length = 2) (hv : fi.nv = 5) (hb : fi.body = tDraw) {K H : HpW} {st q : Addr} {many : Int} {Q : QW} {E : EW} (hm2 : many < 1073741824 ∨ many.natAbs.log2 < 9000) (s : Kn K H st q)
    (h : ∀ r H', 0 ≤ r → (r < many ∨ (many < 2 ∧ r = 0)) → Kn K H' st q → Q (.int r) H') : sem G (n + 1) "_law_draw" [.ref st, .int many] H Q E :=
  sp_draw hf hp hv hb hm2 s.ds fun r H' r0 r1 d o => h r H' r0 r1 (s.draw d o)
end
/-! ### comprehensions whose parts change nothing -/
theorem lc_pure {G : GT} {L : Lv} {σ : StW} {i : Nat} {te : TEW} {D : Addr} {gd Q : HpW → Prop} {H : HpW} (f : W → W) : ∀ (ws : List W) (acc : List W), acc.length + ws.length ≤ sizeLine → (∀ acc, gd (updW H D (.lst acc))) →
    (∀ w ∈ ws, ∀ acc (q : QW), q (f w) (updW H D (.lst acc)) → te (σ.set i (some w)) (updW H D (.lst acc)) q (fun _ _ => False)) → Q (updW H D (.lst (acc ++ ws.map f))) → lcW σ i (wT G L (.tru (.bl true))) te D gd Q ws (updW H D (.lst acc))
  | [], acc, _, hg, _, h => ⟨hg acc, by simpa using h⟩
  | w :: ws, acc, hl, hg, he, h => by
    refine ⟨hg acc, ?_⟩
    simp only [t_tru, e_bl, truB, if_true]
    refine he w (by simp) acc _ ⟨acc, updW_same, by rw [List.length_cons] at hl; omega, ?_⟩
    rw [updU]
    refine lc_pure f ws (acc ++ [f w]) (by simp at hl ⊢; omega) hg (fun w' hw' => he w' (by simp [hw'])) ?_
    simpa using h
/-- [k for k in range(n)] -/
theorem lc_rng {G : GT} {L : Lv} {σ : StW} {i m : Nat} {D : Addr} {Q : HpW → Prop} {H : HpW} {ks : List W} (hm : ks.length ≤ 1000) (hs : ∀ w, sg (σ.set i (some w)) i = some w) (h : Q (updW H D (.lst ks))) : lcW σ i (wT G L (.tru (.bl true))) (wE G L (.var i)) D (fun _ => True) Q ks (updW H D (.lst [])) := by
  refine lc_pure (fun w => w) ks [] (by simp; exact Nat.le_trans hm (by decide)) (fun _ => trivial) (fun w _ acc q hq => ?_) (by simpa using h)
  rw [e_var, hs]
  exact hq
/-- a loop that keeps what it needs -/
theorem for_inv {g : W → StW → HpW → (StW → HpW → Prop) → Prop} {body : TSW} {D : EndsW} {gd : HpW → Prop} (P : W → Prop) (I : StW → HpW → Prop) {ws : List W} {σ : StW} {H : HpW} (hP : ∀ w ∈ ws, P w) (h0 : I σ H) (hg : ∀ σ H, I σ H → gd H) (hend : ∀ σ H, I σ H → D.nx σ H)
    (hstep : ∀ w σ H (K : StW → HpW → Prop), P w → I σ H → (∀ σ H, I σ H → K σ H) → g w σ H fun σ' H' => body { D with nx := K, ct := K, bk := D.nx } σ' H') : forW g body D gd ws σ H :=
  forW_ind (I := fun ws σ H => (∀ w ∈ ws, P w) ∧ I σ H) (fun σ H h => ⟨hg σ H h.2, hend σ H h.2⟩) (fun w ws σ H K h hK => ⟨hg σ H h.2, hstep w σ H K (h.1 w (by simp)) h.2 fun σ H hi => hK σ H ⟨fun w' hw' => h.1 w' (by simp [hw']), hi⟩⟩) ⟨hP, h0⟩
/-! ### _law_same -/
inductive SameD (H : HpW) : Nat → W → W → Prop
  | non {d : Nat} : SameD H d .non .non
  | bl {d : Nat} (b : Bool) : SameD H d (.bl b) (.bl b)
  | int {d : Nat} (i : Int) : SameD H d (.int i) (.int i)
  | str {d : Nat} (x : Str) : SameD H d (.str x) (.str x)
  | tup {d : Nat} {ws us : List W} : ws.length = us.length → us.length < 2 ^ 62 → (∀ (i : Nat) w u, ws[i]? = some w → us[i]? = some u → SameD H d w u) → SameD H (d + 1) (.tup ws) (.tup us)
  | lst {d : Nat} {a b : Addr} {ws us : List W} : H a = some (.lst ws) → H b = some (.lst us) → ws.length = us.length → us.length < 2 ^ 62 → (∀ (i : Nat) w u, ws[i]? = some w → us[i]? = some u → SameD H d w u) → SameD H (d + 1) (.ref a) (.ref b)
def tSame8c : T := .cons (.ifs (.not (.tru (.call "_law_same" (.cons (.idx (.var 0) (.var 2)) (.cons (.idx (.var 1) (.var 2)) .nil))))) (.cons (.ret (.bl false)) .nil) .nil) .nil
def tSame9 : T := .cons (.ret (.bl true)) .nil
def tSame8 : T := .cons (.for_ (.gn 2) (.rng1 (.blt .len (.cons (.var 1) .nil))) tSame8c) tSame9
def tSame7 : T := .cons (.ifs (.cmp .NotEq (.blt .len (.cons (.var 0) .nil)) (.blt .len (.cons (.var 1) .nil))) (.cons (.ret (.bl false)) .nil) .nil) tSame8
def tSame6 : T := .cons (.ifs (.and (.tru (.isi (.var 1) [(.blt "list")])) (.not (.tru (.isi (.var 0) [(.blt "list")])))) (.cons (.ret (.bl false)) .nil) .nil) tSame7
def tSame5 : T := .cons (.ifs (.and (.tru (.isi (.var 1) [(.blt "tuple")])) (.not (.tru (.isi (.var 0) [(.blt "tuple")])))) (.cons (.ret (.bl false)) .nil) .nil) tSame6
def tSame4 : T := .cons (.ifs (.tru (.isi (.var 1) [(.blt "str")])) (.cons (.ret (.and (.isi (.var 0) [(.blt "str")]) (.cmp .Eq (.var 0) (.var 1)))) .nil) .nil) tSame5
def tSame3 : T := .cons (.ifs (.tru (.isi (.var 1) [(.blt "int")])) (.cons (.ret (.and (.isi (.var 0) [(.blt "int")]) (.and (.not (.isi (.var 0) [(.blt "bool")])) (.cmp .Eq (.var 0) (.var 1))))) .nil) .nil) tSame4
def tSame2 : T := .cons (.ifs (.cmp .Is (.var 1) (.bl false)) (.cons (.ret (.cmp .Is (.var 0) (.bl false))) .nil) .nil) tSame3
def tSame1 : T := .cons (.ifs (.cmp .Is (.var 1) (.bl true)) (.cons (.ret (.cmp .Is (.var 0) (.bl true))) .nil) .nil) tSame2
def tSame : T := .cons (.ifs (.cmp .Is (.var 1) .non) (.cons (.ret (.cmp .Is (.var 0) .non)) .nil) .nil) tSame1
@[simp] theorem isi_r {G : GT} {H : HpW} {p : Addr} {ws : List W} {t : String} (h : H p = some (.lst ws)) : isiW G H (.ref p) (.blt t) = kitB "list" t := by
  show (match (match H p with
    | some (.lst _) => (some (.inl "list") : Option (String ⊕ Str))
    | some (.dct _) => some (.inl "dict")
    | some (.ins k _) => some (.inr k)
    | _ => none) with
    | some (.inl t') => isiB t' (.blt t)
    | some (.inr k) => (match G.cl k with
      | some _ => G.isa k (.blt t)
      | none => none)
    | none => none) = _
  rw [h]; rfl
section
variable {G : GT} {fi : FnI} (hf : G.fn "_law_same" = some fi) (hp : fi.ps.length = 2) (hv : fi.nv = 3) (hb : fi.body = tSame) (hbi : ∀ a b, fi.bind [] [a, b] [] = some [a, b])
include hf hp hv hb hbi
theorem sp_same {n : Nat} : ∀ {d : Nat} {w u : W} {H : HpW} {Q : QW} {E : EW}, SameD H d w u → Q (.bl true) H → sem G (n + d + 1) "_law_same" [w, u] H Q E := by
  intro d
  induction d with
  | zero =>
    intro w u H Q E s h
    refine sem_ev hf (by rw [hp]; rfl) hb hv ?_
    have r := ends_rt (E := E) h
    cases s with
    | non => simpa [tSame] using r
    | bl b => cases b <;> simpa [tSame, tSame1, tSame2] using r
    | int i => simpa [tSame, tSame1, tSame2, tSame3] using r
    | str x => simpa [tSame, tSame1, tSame2, tSame3, tSame4] using r
  | succ d ih =>
    intro w u H Q E s h
    refine sem_ev hf (by rw [hp]; rfl) hb hv ?_
    have r := ends_rt (E := E) h
    have loop : ∀ (x y : W) (N : Nat), (∀ (i : Nat), i < N → ∃ w u, (∀ (q : QW), q w H → idxW x (.int i) H q) ∧ (∀ (q : QW), q u H → idxW y (.int i) H q) ∧ SameD H d w u) → ∀ (ks : List Nat) (z : Option W), (∀ k ∈ ks, k < N) →
        forW (wG (.gn 2)) (wS G (semP G (n + (d + 1))) tSame8c) { fnEnds Q E with nx := wS G (semP G (n + (d + 1))) tSame9 (fnEnds Q E) } (fun _ => True) (ks.map fun k : Nat => W.int k) [some x, some y, z] H := by
      intro x y N hN ks
      induction ks with
      | nil =>
        intro z _
        refine ⟨trivial, ?_⟩
        simpa [tSame9] using r
      | cons k ks ihk =>
        intro z hk
        refine ⟨trivial, ?_⟩
        obtain ⟨w, u, hw, hu, hs⟩ := hN k (hk k (by simp))
        have nxt := ihk (some (.int k)) fun k' hk' => hk k' (by simp [hk'])
        simp only [g_gn, tSame8c, s_cons, s_ifs, t_not, t_tru, e_call, a_cons, a_nil, e_idx, e_var, sg0, sgS, List.set, hf]
        refine hw _ (hu _ ?_)
        rw [hbi]
        dsimp only
        rw [semP_c]
        refine ih (w := w) (u := u) hs ?_
        simpa [tSame8c] using nxt
    cases s with
    | non => simpa [tSame] using r
    | bl b => cases b <;> simpa [tSame, tSame1, tSame2] using r
    | int i => simpa [tSame, tSame1, tSame2, tSame3] using r
    | str x => simpa [tSame, tSame1, tSame2, tSame3, tSame4] using r
    | @tup _ ws us hl hz hs =>
      have lp := loop (.tup ws) (.tup us) us.length (fun i hi => ⟨ws[i]'(by omega), us[i], fun q hq => ?_, fun q hq => ?_, hs i _ _ (List.getElem?_eq_getElem (by omega)) (List.getElem?_eq_getElem hi)⟩) (List.range us.length) none (by simp)
      · have hz' : (us.length : Int) < 4611686018427387904 := by omega
        simpa [tSame, tSame1, tSame2, tSame3, tSame4, tSame5, tSame6, tSame7, tSame8, hl, hz'] using lp
      · rw [i_tup, atI_nat]
        · exact hq
        · exact List.getElem?_eq_getElem _
      · rw [i_tup, atI_nat]
        · exact hq
        · exact List.getElem?_eq_getElem _
    | @lst _ a b ws us ea eb hl hz hs =>
      have lp := loop (.ref a) (.ref b) us.length (fun i hi => ⟨ws[i]'(by omega), us[i], fun q hq => ?_, fun q hq => ?_, hs i _ _ (List.getElem?_eq_getElem (by omega)) (List.getElem?_eq_getElem hi)⟩) (List.range us.length) none (by simp)
      · have hz' : (us.length : Int) < 4611686018427387904 := by omega
        simpa [tSame, tSame1, tSame2, tSame3, tSame4, tSame5, tSame6, tSame7, tSame8, hl, hz', isi_r ea, isi_r eb, ea, eb] using lp
      · rw [i_ref, ea]
        dsimp only
        rw [atI_nat]
        · exact hq
        · exact List.getElem?_eq_getElem _
      · rw [i_ref, eb]
        dsimp only
        rw [atI_nat]
        · exact hq
        · exact List.getElem?_eq_getElem _
end
/-- lists of plain things -/
theorem sameL {H : HpW} {a b : Addr} {ws : List W} (ha : H a = some (.lst ws)) (hb : H b = some (.lst ws)) (hl : ws.length < 1000) (hf : ws.all flatW = true) : SameD H 1 (.ref a) (.ref b) := by
  refine .lst ha hb rfl (by omega) fun i w u e1 e2 => ?_
  rw [e1] at e2; cases e2
  have := List.all_eq_true.mp hf w (List.mem_of_getElem? e1)
  cases w <;> first | (simp [flatW] at this; done) | constructor
/-! ### == of lists of ints -/
theorem dp_ints {H : HpW} : ∀ xs : List Int, DpWs H (xs.map W.int) (xs.map PyData.int)
  | [] => .nil
  | x :: xs => .cons (.int x) (dp_ints xs)
theorem lay_ints : ∀ xs : List Int, PyData.canLayAll0 (xs.map PyData.int) = true
  | [] => by simp [PyData.canLayAll0]
  | x :: xs => by simp [PyData.canLayAll0, PyData.canLay0, lay_ints xs]
theorem dep_ints : ∀ xs : List Int, PyData.depthAll (xs.map PyData.int) = 0
  | [] => by simp [PyData.depthAll]
  | x :: xs => by simp [PyData.depthAll, PyData.depth, dep_ints xs]
theorem eqv_ints : ∀ xs ys : List Int, PyData.eqvAll (xs.map PyData.int) (ys.map PyData.int) = decide (xs = ys)
  | [], [] => by simp [PyData.eqvAll]
  | [], _ :: _ => by simp [PyData.eqvAll]
  | _ :: _, [] => by simp [PyData.eqvAll]
  | x :: xs, y :: ys => by
    simp only [List.map_cons, PyData.eqvAll, PyData.eqv, eqv_ints xs ys, List.cons.injEq]
    by_cases h : x = y <;> simp [h]
theorem shp_ints (xs : List Int) : SeqAt.shaped (.list (xs.map PyData.int)) = true := by
  unfold SeqAt.shaped
  simp [PyData.canLay0, lay_ints xs, PyData.depth, dep_ints xs]
theorem cmp_ints {H : HpW} {a b : Addr} {xs ys : List Int} {Q : QW} (ha : H a = some (.lst (xs.map W.int))) (hb : H b = some (.lst (ys.map W.int))) (h : Q (.bl (decide (xs = ys))) H) : cmpW .Eq (.ref a) (.ref b) H Q := by
  refine ⟨.list (xs.map PyData.int), .list (ys.map PyData.int), .lst ha (dp_ints xs), .lst hb (dp_ints ys), shp_ints xs, shp_ints ys, ?_⟩
  have e : PyData.eqv (.list (xs.map PyData.int)) (.list (ys.map PyData.int)) = decide (xs = ys) := by
    simp only [PyData.eqv, eqv_ints]
  rw [e]
  simpa using h
end Uw

namespace Uw
open PySem PySem.Spec PyProof.Rows L2
/-- a comprehension whose parts make new objects alone -/
theorem lc_sub {G : GT} {L : Lv} {σ : StW} {i : Nat} {te : TEW} {D : Addr} {gd Q : HpW → Prop} {H0 : HpW} (f : W → W) (hD : H0 D = none) (hg : ∀ H', Sub H0 H' → gd H') : ∀ (ws acc : List W) (H : HpW), acc.length + ws.length ≤ sizeLine → H D = some (.lst acc) → Sub H0 H →
    (∀ w ∈ ws, ∀ (H' : HpW) acc (q : QW), Sub H0 H' → H' D = some (.lst acc) → (∀ H'', Sub H' H'' → q (f w) H'') → te (σ.set i (some w)) H' q fun _ _ => False) →
    (∀ H', Sub H0 H' → H' D = some (.lst (acc ++ ws.map f)) → Q H') → lcW σ i (wT G L (.tru (.bl true))) te D gd Q ws H
  | [], acc, H, _, hd, hs, _, h => ⟨hg H hs, h H hs (by simpa using hd)⟩
  | w :: ws, acc, H, hl, hd, hs, he, h => by
    refine ⟨hg H hs, ?_⟩
    simp only [t_tru, e_bl, truB, if_true]
    refine he w (by simp) H acc _ hs hd fun H'' s => ⟨acc, s _ _ hd, by rw [List.length_cons] at hl; omega, ?_⟩
    exact lc_sub f hD hg ws (acc ++ [f w]) _ (by simp at hl ⊢; omega) updS (sub_upd (hs.trans s) hD) (fun w' hw' => he w' (by simp [hw'])) (by simpa using h)
/-- a call that made p -/
theorem Kn.grow {K H H' : HpW} {st q p : Addr} {o : O} (s : Kn K H st q) (h : Sub H H') (hp : H p = none) (e : H' p = some o) : Kn (updW K p o) H' st q := by
  have s' := s.drawS h
  obtain ⟨h1, h2⟩ := s.ds.ne_st hp
  refine ⟨fun a u ea => ?_, s'.ds, by rw [updW_ne (Ne.symm h1)]; exact s.k1, by rw [updW_ne (Ne.symm h2)]; exact s.k2⟩
  by_cases hb : a = p
  · subst hb; rw [updW_same] at ea; cases ea; exact e
  · rw [updW_ne hb] at ea; exact s'.sub a u ea
/-- what is known grows -/
theorem Kn.add {K H : HpW} {st q p : Addr} {o : O} (s : Kn K H st q) (h : H p = none) : ∃ K', Sub K K' ∧ K' p = some o ∧ K p = none ∧ Kn K' (updW H p o) st q :=
  ⟨updW K p o, Sub.new (s.free h), updW_same, s.free h, s.new h⟩
theorem Kn.addG {K H H' : HpW} {st q p : Addr} {o : O} (s : Kn K H st q) (h : Sub H H') (hp : H p = none) (e : H' p = some o) : ∃ K', Sub K K' ∧ K' p = some o ∧ K p = none ∧ Kn K' H' st q :=
  ⟨updW K p o, Sub.new (s.free hp), updW_same, s.free hp, s.grow h hp e⟩
/-- comprehensions: the done ones -/
theorem lcI0 {α : Type} {G : GT} {L : Lv} {σ : StW} {i : Nat} {te : TEW} {D : Addr} {gd Q : HpW → Prop} (a : α → W) (I : List α → HpW → Prop) (hg : ∀ d H, I d H → gd H) (all : List α)
    (he : ∀ d x r H (q : QW), d ++ x :: r = all → I d H → (∀ y H4 acc, H4 D = some (.lst acc) → acc.length < sizeLine → I (d ++ [x]) (updW H4 D (.lst (acc ++ [y]))) → q y H4) → te (σ.set i (some (a x))) H q fun _ _ => False)
    (hq : ∀ H, I all H → Q H) : ∀ (xs d : List α) (H : HpW), d ++ xs = all → I d H → lcW σ i (wT G L (.tru (.bl true))) te D gd Q (xs.map a) H
  | [], d, H, e, h => ⟨hg d H h, hq H (by rw [← e]; simpa using h)⟩
  | x :: xs, d, H, e, h => by
    refine ⟨hg d H h, ?_⟩
    simp only [t_tru, e_bl, truB, if_true]
    refine he d x xs H _ e h fun y H4 acc e1 e2 e3 => ⟨acc, e1, e2, ?_⟩
    exact lcI0 a I hg all he hq xs (d ++ [x]) _ (by simpa using e) e3
theorem lcI {α : Type} {G : GT} {L : Lv} {σ : StW} {i : Nat} {te : TEW} {D : Addr} {gd Q : HpW → Prop} {xs : List α} {H : HpW} (a : α → W) (I : List α → HpW → Prop) (h : I [] H) (hg : ∀ d H, I d H → gd H)
    (he : ∀ d x r H (q : QW), d ++ x :: r = xs → I d H → (∀ y H4 acc, H4 D = some (.lst acc) → acc.length < sizeLine → I (d ++ [x]) (updW H4 D (.lst (acc ++ [y]))) → q y H4) → te (σ.set i (some (a x))) H q fun _ _ => False)
    (hq : ∀ H, I xs H → Q H) : lcW σ i (wT G L (.tru (.bl true))) te D gd Q (xs.map a) H := lcI0 a I hg xs he hq xs [] H rfl h
/-- a comprehension whose parts make new objects alone -/
theorem lcA {α : Type} {G : GT} {L : Lv} {σ : StW} {i : Nat} {te : TEW} {D : Addr} {gd Q : HpW → Prop} {H : HpW} (a f : α → W) {xs : List α} (hD : H D = none) (hg : ∀ H', Sub H H' → gd H') (hl : xs.length ≤ 1000)
    (he : ∀ x ∈ xs, ∀ (H' : HpW) (q : QW), Sub H H' → (∀ H'', Sub H' H'' → q (f x) H'') → te (σ.set i (some (a x))) H' q fun _ _ => False)
    (hq : ∀ H', Sub H H' → H' D = some (.lst (xs.map f)) → Q H') : lcW σ i (wT G L (.tru (.bl true))) te D gd Q (xs.map a) (updW H D (.lst [])) := by
  refine lcI a (fun d H' => H' D = some (.lst (d.map f)) ∧ Sub H H') ⟨updS, Sub.new hD⟩ (fun d H' h => hg H' h.2) ?_ ?_
  · rintro d x r H' q e ⟨h1, h2⟩ hq
    have sz : sizeLine = 16777216 := rfl
    have hd : d.length < 1000 := by
      have := congrArg List.length e
      simp at this; omega
    refine he x (by rw [← e]; simp) H' q h2 fun H'' s => hq _ _ _ (s _ _ h1) (by simp; omega) ⟨by rw [updW_same]; simp, sub_upd (h2.trans s) hD⟩
  · rintro H' ⟨h1, h2⟩
    exact hq H' h2 h1
/-- a comprehension that draws -/
theorem lcK {α β : Type} {G : GT} {L : Lv} {σ : StW} {i : Nat} {te : TEW} {D st q0 : Addr} {gd Q : HpW → Prop} {K H : HpW} (a : α → W) (v : β → W) (R : HpW → α → β → Prop) {xs : List α} (k : Kn K H st q0) (hD : H D = none) (hg : ∀ K' H', Sub K K' → Kn K' H' st q0 → gd H') (hl : xs.length ≤ 1000)
    (mono : ∀ K K' x b, (∀ p o, p ≠ D → K p = some o → K' p = some o) → R K x b → R K' x b)
    (he : ∀ x ∈ xs, ∀ (K1 H1 : HpW) (q : QW), Sub K K1 → (∃ o, K1 D = some o) → Kn K1 H1 st q0 → (∀ b K2 H2, Sub K1 K2 → R K2 x b → Kn K2 H2 st q0 → q (v b) H2) → te (σ.set i (some (a x))) H1 q fun _ _ => False)
    (hq : ∀ (bs : List β) (K1 H1 : HpW), Sub K K1 → bs.length = xs.length → (∀ (j : Nat) x b, xs[j]? = some x → bs[j]? = some b → R K1 x b) → K1 D = some (.lst (bs.map v)) → Kn K1 H1 st q0 → Q H1) :
    lcW σ i (wT G L (.tru (.bl true))) te D gd Q (xs.map a) (updW H D (.lst [])) := by
  have kD : K D = none := k.free hD
  refine lcI a (fun d H' => ∃ bs K1, Sub K K1 ∧ bs.length = d.length ∧ (∀ (j : Nat) x b, d[j]? = some x → bs[j]? = some b → R K1 x b) ∧ K1 D = some (.lst (bs.map v)) ∧ Kn K1 H' st q0) ⟨[], updW K D (.lst []), Sub.new kD, rfl, by simp, updW_same, k.new hD⟩ (fun d H' ⟨bs, K1, s, _, _, _, k1⟩ => hg K1 H' s k1) ?_ ?_
  · rintro d x r H' q e ⟨bs, K1, s1, hl1, hr, h1, k1⟩ hq
    have sz : sizeLine = 16777216 := rfl
    have hd : d.length < 1000 := by
      have := congrArg List.length e
      simp at this; omega
    refine he x (by rw [← e]; simp) K1 H' q s1 ⟨_, h1⟩ k1 fun b K2 H2 s2 hb k2 => hq _ _ _ (k2.sub _ _ (s2 _ _ h1)) (by simp; omega) ?_
    have far : ∀ p o, p ≠ D → K2 p = some o → updW K2 D (.lst (bs.map v ++ [v b])) p = some o := fun p o hp ho => by rw [updW_ne hp]; exact ho
    refine ⟨bs ++ [b], updW K2 D (.lst (bs.map v ++ [v b])), sub_upd (s1.trans s2) kD, by simp [hl1], ?_, by rw [updW_same]; simp, k2.put (s2 _ _ h1)⟩
    intro j y c hy hc
    by_cases hj : j < d.length
    · rw [List.getElem?_append_left hj] at hy
      rw [List.getElem?_append_left (by omega)] at hc
      exact mono _ _ _ _ (fun p o hp ho => far p o hp (s2 _ _ ho)) (hr j y c hy hc)
    · rw [List.getElem?_append_right (by omega)] at hy
      rw [List.getElem?_append_right (by omega)] at hc
      have e0 : j - d.length = 0 := by
        cases h0 : j - d.length with
        | zero => rfl
        | succ m => rw [h0] at hy; simp at hy
      rw [e0] at hy
      rw [hl1, e0] at hc
      simp at hy hc
      subst hy hc
      exact mono _ _ _ _ far hb
  · rintro H' ⟨bs, K1, s1, hl1, hr, h1, k1⟩
    exact hq bs K1 H' s1 hl1 hr h1 k1
/-! ### tables: a list of rows -/
structure Tb (H : HpW) (p : Addr) (T : List (Addr × List W)) : Prop where
  top : H p = some (.lst (T.map fun t => .ref t.1))
  row : ∀ t ∈ T, H t.1 = some (.lst t.2)
theorem Tb.sub {H H' : HpW} {p : Addr} {T : List (Addr × List W)} (t : Tb H p T) (s : Sub H H') : Tb H' p T := ⟨s _ _ t.top, fun a h => s _ _ (t.row a h)⟩
/-- [word for row in table for word in row] -/
theorem lc2_tb {G : GT} {L : Lv} {σ : StW} {i j : Nat} {D : Addr} {gd Q : HpW → Prop} {H : HpW} (hD : H D = none) (hi : ∀ w, sg (σ.set i (some w)) i = some w) (hj : ∀ w u, sg ((σ.set i (some u)).set j (some w)) j = some w) (hg : ∀ H', Sub H H' → gd H') : ∀ (T : List (Addr × List W)) (acc : List W), acc.length + ((T.map (·.2)).flatten).length ≤ 100000 → (∀ t ∈ T, H t.1 = some (.lst t.2)) → Q (updW H D (.lst (acc ++ (T.map (·.2)).flatten))) →
    lc2W σ i j (wT G L (.tru (.bl true))) (wI G L (.iter (.var i))) (wT G L (.tru (.bl true))) (wE G L (.var j)) D gd Q (T.map fun t => .ref t.1) (updW H D (.lst acc))
  | [], acc, _, _, h => ⟨hg _ (Sub.new hD), by simpa using h⟩
  | t :: T, acc, hl, hr, h => by
    refine ⟨hg _ (Sub.new hD), ?_⟩
    have ht := hr t (by simp)
    have ne : t.1 ≠ D := fun e => by rw [e, hD] at ht; cases ht
    have sz : sizeLine = 16777216 := rfl
    simp only [t_tru, e_bl, truB, if_true]
    simp [hi, updW_ne ne, ht]
    refine lc_pure (fun w => w) t.2 acc (by simp at hl; omega) (fun acc => by rw [updW_ne ne]; exact ht) (fun w _ acc q hq => ?_) ?_
    · rw [e_var, hj]; exact hq
    · refine lc2_tb hD hi hj hg T (acc ++ t.2.map fun w => w) (by simp at hl ⊢; omega) (fun t ht => hr t (by simp [ht])) ?_
      simpa using h
theorem join_len (g : Str) (ys : List Str) : (Txt.join g ys).length ≤ (ys.map (·.length)).sum + ys.length * g.length := by
  have key : ∀ (l : List Str) (acc : Array Nat), (List.foldl (fun acc (p : Str) => acc ++ g.cps ++ p.cps) acc l).size = acc.size + (l.map (·.length)).sum + l.length * g.length := by
    intro l
    induction l with
    | nil => intro acc; simp
    | cons y l ih =>
      intro acc
      rw [List.foldl_cons, ih]
      simp [Str.length, Nat.add_mul]
      omega
  cases ys with
  | nil => exact Nat.le_of_eq (by simp [Txt.join, Builtin.Str.glued, Str.length, Str.empty])
  | cons y ys =>
    have := key ys y.cps
    simp only [Txt.join, Builtin.Str.glued, Str.length, List.headD_cons, List.drop_one, List.tail_cons, List.map_cons, List.sum_cons, List.length_cons, Nat.add_mul] at this ⊢
    rw [this]
    omega
/-! ### sums of ones -/
def itn (f : Nat → Nat) (u : Nat) : Nat → Nat
  | 0 => u
  | n + 1 => f (itn f u n)
theorem itn_add {f : Nat → Nat} {u s k : Nat} (h : itn f u k = itn f u s) : ∀ j, itn f u (k + j) = itn f u (s + j)
  | 0 => h
  | j + 1 => by show f (itn f u (k + j)) = f (itn f u (s + j)); rw [itn_add h j]
theorem itn_cyc {f : Nat → Nat} {u s k : Nat} (h : itn f u k = itn f u s) (hs : s < k) : ∀ c, s ≤ c → itn f u c = itn f u (s + (c - s) % (k - s)) := by
  intro c
  induction c using Nat.strongRecOn with
  | ind c ih =>
    intro hc
    by_cases hk : c < k
    · rw [Nat.mod_eq_of_lt (by omega)]
      congr 1; omega
    · have e1 : c = k + (c - k) := by omega
      have e2 : itn f u c = itn f u (s + (c - k)) := by rw [← itn_add h (c - k), ← e1]
      rw [e2, ih (s + (c - k)) (by omega) (by omega)]
      have e3 : c - s = (s + (c - k) - s) + (k - s) := by omega
      rw [e3, Nat.add_mod_right]
theorem itn_lt {f : Nat → Nat} {u z : Nat} (hu : u < z) (hf : ∀ a, a < z → f a < z) : ∀ n, itn f u n < z
  | 0 => hu
  | n + 1 => hf _ (itn_lt hu hf n)
theorem nodup_le : ∀ (z : Nat) (l : List Nat), l.Nodup → (∀ a ∈ l, a < z) → l.length ≤ z
  | 0, l, _, h => by
    cases l with
    | nil => simp
    | cons a l => exact absurd (h a (by simp)) (by omega)
  | z + 1, l, nd, h => by
    by_cases hm : z ∈ l
    · have := nodup_le z (l.erase z) (nd.erase z) fun a ha => by
        have h1 := h a (List.mem_of_mem_erase ha)
        have h2 : a ≠ z := fun e => by subst e; exact (List.Nodup.not_mem_erase nd) ha
        omega
      rw [List.length_erase_of_mem hm] at this
      omega
    · have := nodup_le z l nd fun a ha => by
        have h1 := h a ha
        have h2 : a ≠ z := fun e => hm (e ▸ ha)
        omega
      omega
def natsW (l : List Nat) : List W := l.map fun k : Nat => W.int k
theorem flat_nats : ∀ l : List Nat, (natsW l).all flatW = true
  | [] => rfl
  | x :: l => by rw [natsW, List.map_cons, List.all_cons]; exact flat_nats l
theorem in_nats (w : Nat) : ∀ l : List Nat, inF (.int w) (natsW l) = decide (w ∈ l)
  | [] => rfl
  | x :: l => by
    have := in_nats w l
    unfold inF natsW at this ⊢
    rw [List.map_cons, List.any_cons, this]
    by_cases e : x = w
    · subst e; simp [eqF]
    · have : ¬ w = x := fun h => e h.symm
      have e2 : ¬ (x : Int) = (w : Int) := by omega
      simp [eqF, e2, this]
theorem idx_nats (w : Nat) (l : List Nat) {k : Nat} (nd : l.Nodup) (h : l[k]? = some w) : idxF (.int w) (natsW l) = some k := by
  induction l generalizing k with
  | nil => simp at h
  | cons x l ih =>
    have hx : x ∉ l := (List.nodup_cons.mp nd).1
    have nd' := (List.nodup_cons.mp nd).2
    unfold idxF natsW at ih ⊢
    rw [List.map_cons, List.findIdx?_cons]
    cases k with
    | zero => simp at h; subst h; simp [eqF]
    | succ k =>
      have hm : w ∈ l := List.mem_of_getElem? (by simpa using h)
      have ne : x ≠ w := fun e => hx (e ▸ hm)
      have e2 : ¬ (x : Int) = (w : Int) := by omega
      have e1 : eqF (.int x) (.int w) = false := by simp [eqF, e2]
      rw [e1, ih nd' (by simpa using h)]
      rfl
theorem bm_ixn {p : Addr} {l : List Nat} {k w : Nat} {H : HpW} {Q : QW} (hp : H p = some (.lst (natsW l))) (nd : l.Nodup) (hk : l[k]? = some w) (h : Q (.int k) H) : bmW .index (.ref p) [.int w] H Q := by
  simp only [bmW, hp]
  refine .inl ⟨rfl, flat_nats l, ?_⟩
  rw [idx_nats w l nd hk]
  exact h
theorem cmp_inn {p : Addr} {l : List Nat} {w : Nat} {H : HpW} {Q : QW} (hp : H p = some (.lst (natsW l))) (h : Q (.bl (decide (w ∈ l))) H) : cmpW .In (.int w) (.ref p) H Q := by
  simp only [cmpW, inW, hp]
  refine .inl ⟨rfl, flat_nats l, ?_⟩
  rw [in_nats]
  simpa using h
/-- the walk of the sums of ones -/
theorem walk_next {f : Nat → Nat} {u k : Nat} (nd : ((List.range k).map (itn f u)).Nodup) (h : itn f u k ∉ (List.range k).map (itn f u)) : ((List.range (k + 1)).map (itn f u)).Nodup := by
  rw [List.range_succ, List.map_append, List.map_cons, List.map_nil, List.nodup_append]
  refine ⟨nd, by simp, fun a ha b hb => ?_⟩
  simp only [List.mem_singleton] at hb
  subst hb
  exact fun e => h (e ▸ ha)
/-- a table that is drawn, row by row -/
theorem lcTab {α β γ : Type} {G : GT} {L : Lv} {σ : StW} {i j v : Nat} {el : T} {D st q0 : Addr} {gd Q : HpW → Prop} {K H : HpW} (a : α → W) (py : α → Addr) (ys : α → List β) (b : β → W) (vv : γ → W) (P : β → γ → Prop) {xs : List α} (k : Kn K H st q0) (hD : H D = none) (hg : ∀ K' H', Sub K K' → Kn K' H' st q0 → gd H') (hl : xs.length ≤ 1000) (hly : ∀ x ∈ xs, (ys x).length ≤ 1000)
    (hsv : ∀ x ∈ xs, sg (σ.set i (some (a x))) v = some (.ref (py x))) (hky : ∀ x ∈ xs, K (py x) = some (.lst ((ys x).map b)))
    (he : ∀ x ∈ xs, ∀ y ∈ ys x, ∀ (K1 H1 : HpW) (q : QW), Sub K K1 → Kn K1 H1 st q0 → (∀ c H2, P y c → Kn K1 H2 st q0 → q (vv c) H2) → wE G L el (((σ.set i (some (a x))).set j none).set j (some (b y))) H1 q (fun _ _ => False))
    (hq : ∀ (X : List (Addr × List γ)) (K1 H1 : HpW), Sub K K1 → X.length = xs.length → (∀ (n : Nat) x r, xs[n]? = some x → X[n]? = some r → r.2.length = (ys x).length ∧ ∀ (m : Nat) y c, (ys x)[m]? = some y → r.2[m]? = some c → P y c) → Tb K1 D (X.map fun r => (r.1, r.2.map vv)) → Kn K1 H1 st q0 → Q H1) :
    lcW σ i (wT G L (.tru (.bl true))) (wE G L (.lc el j (.iter (.var v)) (.tru (.bl true)))) D gd Q (xs.map a) (updW H D (.lst [])) := by
  refine lcK a (fun r : Addr × List γ => .ref r.1) (fun K x r => r.1 ≠ D ∧ K r.1 = some (.lst (r.2.map vv)) ∧ r.2.length = (ys x).length ∧ ∀ (m : Nat) y c, (ys x)[m]? = some y → r.2[m]? = some c → P y c) k hD hg hl (fun K K' x r far h => ⟨h.1, far _ _ h.1 h.2.1, h.2.2⟩) ?_ ?_
  · rintro x hx K1 H1 q s1 ⟨o, hDo⟩ k1 hq
    have hy := s1 _ _ (hky x hx)
    rw [e_lc]
    simp only [n_iter, e_var, hsv x hx, it_r]
    rw [k1.sub _ _ hy]
    dsimp only
    intro d hd
    refine lcK b vv (fun _ y c => P y c) k1 hd (fun K' H' s k' => k'.sub _ _ (s _ _ hy)) (hly x hx) (fun _ _ _ _ _ h => h) (fun y hy K2 H2 q2 s2 _ k2 hq2 => he x hx y hy K2 H2 q2 (s1.trans s2) k2 fun c H3 hc k3 => hq2 c K2 H3 Sub.refl hc k3) ?_
    intro cs K2 H2 s2 hl2 hr h2 k2
    refine hq (d, cs) K2 H2 s2 ⟨fun e => ?_, h2, hl2, hr⟩ k2
    rw [show d = D from e, k1.sub _ _ hDo] at hd
    cases hd
  · intro bs K1 H1 s1 hl1 hr h1 k1
    refine hq bs K1 H1 s1 hl1 (fun n x r hx hrr => (hr n x r hx hrr).2.2) ⟨?_, ?_⟩ k1
    · rw [h1, List.map_map]; rfl
    · intro t ht
      obtain ⟨r, hm, rfl⟩ := List.mem_map.mp ht
      obtain ⟨n, hn⟩ := List.getElem?_of_mem hm
      have hlt : n < bs.length := by
        cases Nat.lt_or_ge n bs.length with
        | inl h => exact h
        | inr h => rw [List.getElem?_eq_none h] at hn; cases hn
      exact (hr n xs[n] r (List.getElem?_eq_getElem (by omega)) hn).2.1
/-- a loop: the done ones -/
theorem forI0 {α : Type} {g : W → StW → HpW → (StW → HpW → Prop) → Prop} {body : TSW} {D : EndsW} {gd : HpW → Prop} (a : α → W) (I : List α → StW → HpW → Prop) (all : List α) (hg : ∀ d σ H, I d σ H → gd H) (hend : ∀ σ H, I all σ H → D.nx σ H)
    (hstep : ∀ d x r σ H (K : StW → HpW → Prop), d ++ x :: r = all → I d σ H → (∀ σ H, I (d ++ [x]) σ H → K σ H) → g (a x) σ H fun σ' H' => body { D with nx := K, ct := K, bk := D.nx } σ' H') : ∀ (xs d : List α) (σ : StW) (H : HpW), d ++ xs = all → I d σ H → forW g body D gd (xs.map a) σ H
  | [], d, σ, H, e, h => ⟨hg d σ H h, hend σ H (by rw [← e]; simpa using h)⟩
  | x :: xs, d, σ, H, e, h => by
    refine ⟨hg d σ H h, ?_⟩
    exact hstep d x xs σ H _ e h fun σ' H' h' => forI0 a I all hg hend hstep xs (d ++ [x]) σ' H' (by simpa using e) h'
theorem forI {α : Type} {g : W → StW → HpW → (StW → HpW → Prop) → Prop} {body : TSW} {D : EndsW} {gd : HpW → Prop} {xs : List α} {σ : StW} {H : HpW} (a : α → W) (I : List α → StW → HpW → Prop) (h : I [] σ H) (hg : ∀ d σ H, I d σ H → gd H) (hend : ∀ σ H, I xs σ H → D.nx σ H)
    (hstep : ∀ d x r σ H (K : StW → HpW → Prop), d ++ x :: r = xs → I d σ H → (∀ σ H, I (d ++ [x]) σ H → K σ H) → g (a x) σ H fun σ' H' => body { D with nx := K, ct := K, bk := D.nx } σ' H') : forW g body D gd (xs.map a) σ H :=
  forI0 a I xs hg hend hstep xs [] σ H rfl h
theorem rng_at {d r : List Nat} {x m : Nat} (e : d ++ x :: r = List.range m) : x = d.length ∧ x < m := by
  have h1 : (d ++ x :: r)[d.length]? = some x := by simp
  rw [e] at h1
  have hlt : d.length < m := by
    have := congrArg List.length e
    simp at this; omega
  rw [List.getElem?_range hlt] at h1
  cases h1
  exact ⟨rfl, hlt⟩
/-- a comprehension that picks -/
theorem lcF {α : Type} {G : GT} {L : Lv} {σ : StW} {i : Nat} {tt : TTW} {D : Addr} {gd Q : HpW → Prop} {H : HpW} (a : α → W) (f : α → Bool) (hs : ∀ w, sg (σ.set i (some w)) i = some w) (hg : ∀ acc, gd (updW H D (.lst acc))) : ∀ (xs : List α) (acc : List W), acc.length + xs.length ≤ 1000 →
    (∀ x ∈ xs, ∀ acc (q : Bool → HpW → Prop), q (f x) (updW H D (.lst acc)) → tt (σ.set i (some (a x))) (updW H D (.lst acc)) q fun _ _ => False) → Q (updW H D (.lst (acc ++ (xs.filter f).map a))) → lcW σ i tt (wE G L (.var i)) D gd Q (xs.map a) (updW H D (.lst acc))
  | [], acc, _, _, h => ⟨hg acc, by simpa using h⟩
  | x :: xs, acc, hl, ht, h => by
    refine ⟨hg acc, ht x (by simp) acc _ ?_⟩
    have sz : sizeLine = 16777216 := rfl
    cases hf : f x with
    | true =>
      simp only [if_true, e_var, hs]
      refine ⟨acc, updW_same, by simp at hl; omega, ?_⟩
      rw [updU]
      refine lcF a f hs hg xs (acc ++ [a x]) (by simp at hl ⊢; omega) (fun x' hx' => ht x' (by simp [hx'])) ?_
      simpa [List.filter_cons, hf] using h
    | false =>
      simp only [Bool.false_eq_true, if_false]
      refine lcF a f hs hg xs acc (by simp at hl ⊢; omega) (fun x' hx' => ht x' (by simp [hx'])) ?_
      simpa [List.filter_cons, hf] using h
/-! ### least bounds -/
def upp (z : Nat) (wi : Nat → Nat → Bool) (a b : Nat) : List Nat := (List.range z).filter fun k => wi a k && wi b k
def bndW (z : Nat) (wi : Nat → Nat → Bool) (a b : Nat) : W := match (upp z wi a b).find? (fun k => (upp z wi a b).all (wi k)) with
  | some k => .int k
  | none => .non
theorem Tb.ent {γ : Type} {vv : γ → W} {H : HpW} {p : Addr} {X : List (Addr × List γ)} (t : Tb H p (X.map fun r => (r.1, r.2.map vv))) {a b : Nat} {r : List γ} {c : γ} (h1 : (X.map (·.2))[a]? = some r) (h2 : r[b]? = some c) : ∃ q, H p = some (.lst (X.map fun t => W.ref t.1)) ∧ atI (X.map fun t => W.ref t.1) (a : Int) = some (.ref q) ∧ H q = some (.lst (r.map vv)) ∧ atI (r.map vv) (b : Int) = some (vv c) := by
  have top := t.top
  rw [List.map_map] at top
  rw [List.getElem?_map] at h1
  cases e : X[a]? with
  | none => rw [e] at h1; cases h1
  | some u =>
    rw [e] at h1
    cases h1
    refine ⟨u.1, top, atI_nat (by simp [e]), t.row (u.1, u.2.map vv) ?_, atI_nat (by rw [List.getElem?_map, h2]; rfl)⟩
    exact List.mem_map.mpr ⟨u, List.mem_of_getElem? e, rfl⟩
def wiB (B : List (List Bool)) (a b : Nat) : Bool := (B.getD a []).getD b false
structure BOk (z : Nat) (B : List (List Bool)) : Prop where
  len : B.length = z
  row : ∀ r ∈ B, r.length = z
theorem BOk.at {z : Nat} {B : List (List Bool)} (s : BOk z B) {a b : Nat} (ha : a < z) (hb : b < z) : ∃ r, B[a]? = some r ∧ r[b]? = some (wiB B a b) := by
  have h1 : a < B.length := by rw [s.len]; exact ha
  have hr : B[a] ∈ B := List.getElem_mem h1
  have h2 : b < B[a].length := by rw [s.row _ hr]; exact hb
  have e : wiB B a b = B[a][b] := by simp [wiB, List.getD_eq_getElem?_getD, List.getElem?_eq_getElem h1, List.getElem?_eq_getElem h2]
  exact ⟨B[a], List.getElem?_eq_getElem h1, by rw [e]; exact List.getElem?_eq_getElem h2⟩
theorem sameBn {H : HpW} {d z : Nat} {wi wi' : Nat → Nat → Bool} {a b : Nat} (h : bndW z wi a b = bndW z wi' a b) : SameD H d (bndW z wi a b) (bndW z wi' a b) := by
  rw [h]
  unfold bndW
  split
  · exact .int _
  · exact .non
end Uw

namespace LawK05
open PySem PySem.Spec PyProof.Rows L2 Uw
/-! ### the tables of the law -/
def top (i : Nat) : Stmt := PySem.Challenge.pw_usescale_k05_tallies.main.body.getD i (.Pass ⟨0, 0, 0, 0⟩)
def cst (i j : Nat) : Stmt := match top i with
  | .ClassDef _ _ _ b _ _ _ _ _ _ _ => b.getD j (.Pass ⟨0, 0, 0, 0⟩)
  | s => s
def t_Scale____init___4 : T := .cons (.seta (.var 0) "depth" (.var 5)) .nil
def t_Scale____init___3 : T := .cons (.seta (.var 0) "label" (.var 4)) t_Scale____init___4
def t_Scale____init___2 : T := .cons (.seta (.var 0) "one_at" (.var 3)) t_Scale____init___3
def t_Scale____init___1 : T := .cons (.seta (.var 0) "zero_at" (.var 2)) t_Scale____init___2
def t_Scale____init__ : T := .cons (.seta (.var 0) "size" (.var 1)) t_Scale____init___1
def f_Scale____init__ : FnI := ⟨["self", "size", "zero_at", "one_at", "label", "depth"], 6, [(5, [])], [("depth", (.int 1))], t_Scale____init__⟩
def t_Scale__places_1 : T := .cons (.ret (.lrng (.rng1 (.att (.var 0) "size")))) .nil
def t_Scale__placesa : T := .cons (.rse "EndlessScale" (.str "the scale has endlessly many grades")) .nil
def t_Scale__places : T := .cons (.ifs (.cmp .Is (.att (.var 0) "size") .non) t_Scale__placesa .nil) t_Scale__places_1
def f_Scale__places : FnI := ⟨["self"], 1, [(1, [])], [], t_Scale__places⟩
def t_Scale__sum_at : T := .cons .bad .nil
def f_Scale__sum_at : FnI := ⟨["self", "first", "second"], 3, [(3, [])], [], t_Scale__sum_at⟩
def t_Scale__product_at : T := .cons .bad .nil
def f_Scale__product_at : FnI := ⟨["self", "first", "second"], 3, [(3, [])], [], t_Scale__product_at⟩
def t_Scale__within_at : T := .cons .bad .nil
def f_Scale__within_at : FnI := ⟨["self", "first", "second"], 3, [(3, [])], [], t_Scale__within_at⟩
def t_Scale__bound_at_2 : T := .cons (.ret .non) .nil
def t_Scale__bound_at_1ca : T := .cons (.ret (.var 4)) .nil
def t_Scale__bound_at_1c : T := .cons (.ifs (.tru (.blt .all (.cons (.lc (.meth (.var 0) "within_at" (.cons (.var 4) (.cons (.var 5) .nil))) 5 (.iter (.var 3)) (.tru (.bl true))) .nil))) t_Scale__bound_at_1ca .nil) .nil
def t_Scale__bound_at_1 : T := .cons (.for_ (.gn 4) (.iter (.var 3)) t_Scale__bound_at_1c) t_Scale__bound_at_2
def t_Scale__bound_at : T := .cons (.asg (.gn 3) (.lc (.var 4) 4 (.iter (.meth (.var 0) "places" .nil)) (.and (.tru (.meth (.var 0) "within_at" (.cons (.var 1) (.cons (.var 4) .nil)))) (.tru (.meth (.var 0) "within_at" (.cons (.var 2) (.cons (.var 4) .nil))))))) t_Scale__bound_at_1
def f_Scale__bound_at : FnI := ⟨["self", "first", "second"], 6, [(3, [])], [], t_Scale__bound_at⟩
def t_Scale__name_at : T := .cons .bad .nil
def f_Scale__name_at : FnI := ⟨["self", "place"], 2, [(2, [])], [], t_Scale__name_at⟩
def t_Scale__at_name_1 : T := .cons (.rsx "UnknownGrade" (.cons (.var 1) .nil)) .nil
def t_Scale__at_nameca : T := .cons (.ret (.var 2)) .nil
def t_Scale__at_namec : T := .cons (.ifs (.cmp .Eq (.meth (.var 0) "name_at" (.cons (.var 2) .nil)) (.var 1)) t_Scale__at_nameca .nil) .nil
def t_Scale__at_name : T := .cons (.for_ (.gn 2) (.iter (.meth (.var 0) "places" .nil)) t_Scale__at_namec) t_Scale__at_name_1
def f_Scale__at_name : FnI := ⟨["self", "name"], 3, [(2, [])], [], t_Scale__at_name⟩
def t_Scale__times_at_3 : T := .cons (.ret (.idx (.var 2) (.bin .Sub (.var 1) (.int (1))))) .nil
def t_Scale__times_at_2c_2 : T := .cons (.expr (.bm .append (.var 2) (.cons (.var 3) .nil))) .nil
def t_Scale__times_at_2c_1a_1 : T := .cons (.ret (.idx (.var 2) (.bin .Add (.var 4) (.bin .Mod (.bin .Sub (.bin .Sub (.var 1) (.int (1))) (.var 4)) (.bin .Sub (.blt .len (.cons (.var 2) .nil)) (.var 4)))))) .nil
def t_Scale__times_at_2c_1a : T := .cons (.asg (.gn 4) (.bm .index (.var 2) (.cons (.var 3) .nil))) t_Scale__times_at_2c_1a_1
def t_Scale__times_at_2c_1 : T := .cons (.ifs (.cmp .In (.var 3) (.var 2)) t_Scale__times_at_2c_1a .nil) t_Scale__times_at_2c_2
def t_Scale__times_at_2c : T := .cons (.asg (.gn 3) (.meth (.var 0) "sum_at" (.cons (.idx (.var 2) (.neg (.int (1)))) (.cons (.att (.var 0) "one_at") .nil)))) t_Scale__times_at_2c_1
def t_Scale__times_at_2 : T := .cons (.whl (.cmp .Lt (.blt .len (.cons (.var 2) .nil)) (.var 1)) t_Scale__times_at_2c) t_Scale__times_at_3
def t_Scale__times_at_1 : T := .cons (.asg (.gn 2) (.lst (.cons (.att (.var 0) "one_at") .nil))) t_Scale__times_at_2
def t_Scale__times_ata : T := .cons (.ret (.att (.var 0) "zero_at")) .nil
def t_Scale__times_at : T := .cons (.ifs (.cmp .Eq (.var 1) (.int (0))) t_Scale__times_ata .nil) t_Scale__times_at_1
def f_Scale__times_at : FnI := ⟨["self", "count"], 5, [(2, [])], [], t_Scale__times_at⟩
def t_Tally____init__ : T := .cons (.sup "Tally" "__init__" (.cons .non (.cons (.int (0)) (.cons (.int (1)) (.cons (.var 1) .nil))))) .nil
def f_Tally____init__ : FnI := ⟨["self", "label"], 3, [(2, [])], [], t_Tally____init__⟩
def t_Tally__places : T := .cons (.rse "EndlessScale" (.str "a tally has endlessly many grades")) .nil
def f_Tally__places : FnI := ⟨["self"], 1, [(1, [])], [], t_Tally__places⟩
def t_Tally__sum_at : T := .cons (.ret (.bin .Add (.var 1) (.var 2))) .nil
def f_Tally__sum_at : FnI := ⟨["self", "first", "second"], 3, [(3, [])], [], t_Tally__sum_at⟩
def t_Tally__product_at : T := .cons (.ret (.bin .Mult (.var 1) (.var 2))) .nil
def f_Tally__product_at : FnI := ⟨["self", "first", "second"], 3, [(3, [])], [], t_Tally__product_at⟩
def t_Tally__name_at : T := .cons (.ret (.blt .str (.cons (.var 1) .nil))) .nil
def f_Tally__name_at : FnI := ⟨["self", "place"], 2, [(2, [])], [], t_Tally__name_at⟩
def t_Tally__at_name_2 : T := .cons (.ret (.blt .int (.cons (.var 1) .nil))) .nil
def t_Tally__at_name_1ca : T := .cons (.rsx "UnknownGrade" (.cons (.var 1) .nil)) .nil
def t_Tally__at_name_1c : T := .cons (.ifs (.cmp .NotIn (.var 2) (.con "FIGURES")) t_Tally__at_name_1ca .nil) .nil
def t_Tally__at_name_1 : T := .cons (.for_ (.gn 2) (.iter (.var 1)) t_Tally__at_name_1c) t_Tally__at_name_2
def t_Tally__at_namea : T := .cons (.rsx "UnknownGrade" (.cons (.var 1) .nil)) .nil
def t_Tally__at_name : T := .cons (.ifs (.or (.cmp .Eq (.var 1) (.str "")) (.or (.cmp .Gt (.blt .len (.cons (.var 1) .nil)) (.con "MOST_FIGURES")) (.and (.cmp .Eq (.idx (.var 1) (.int (0))) (.str "0")) (.cmp .Gt (.blt .len (.cons (.var 1) .nil)) (.int (1)))))) t_Tally__at_namea .nil) t_Tally__at_name_1
def f_Tally__at_name : FnI := ⟨["self", "name"], 3, [(2, [])], [], t_Tally__at_name⟩
def t_Tally__times_at : T := .cons (.ret (.var 1)) .nil
def f_Tally__times_at : FnI := ⟨["self", "count"], 2, [(2, [])], [], t_Tally__times_at⟩
def t_SameOrder__within_at : T := .cons (.ret (.cmp .Eq (.var 1) (.var 2))) .nil
def f_SameOrder__within_at : FnI := ⟨["self", "first", "second"], 3, [(3, [])], [], t_SameOrder__within_at⟩
def t_SameOrder__bound_at : T := .cons (.ret (.ite (.cmp .Eq (.var 1) (.var 2)) (.var 1) .non)) .nil
def f_SameOrder__bound_at : FnI := ⟨["self", "first", "second"], 3, [(3, [])], [], t_SameOrder__bound_at⟩
def t_UpOrder__within_at : T := .cons (.ret (.cmp .LtE (.var 1) (.var 2))) .nil
def f_UpOrder__within_at : FnI := ⟨["self", "first", "second"], 3, [(3, [])], [], t_UpOrder__within_at⟩
def t_UpOrder__bound_at : T := .cons (.ret (.ite (.cmp .LtE (.var 1) (.var 2)) (.var 2) (.var 1))) .nil
def f_UpOrder__bound_at : FnI := ⟨["self", "first", "second"], 3, [(3, [])], [], t_UpOrder__bound_at⟩
def t_DownOrder__within_at : T := .cons (.ret (.cmp .GtE (.var 1) (.var 2))) .nil
def f_DownOrder__within_at : FnI := ⟨["self", "first", "second"], 3, [(3, [])], [], t_DownOrder__within_at⟩
def t_DownOrder__bound_at : T := .cons (.ret (.ite (.cmp .GtE (.var 1) (.var 2)) (.var 2) (.var 1))) .nil
def f_DownOrder__bound_at : FnI := ⟨["self", "first", "second"], 3, [(3, [])], [], t_DownOrder__bound_at⟩
def t_ExactTally____init__ : T := .cons (.sup "ExactTally" "__init__" (.cons (.str "(tally same)") .nil)) .nil
def f_ExactTally____init__ : FnI := ⟨["self"], 2, [(1, [])], [], t_ExactTally____init__⟩
def t_MostTally____init__ : T := .cons (.sup "MostTally" "__init__" (.cons (.str "(tally up)") .nil)) .nil
def f_MostTally____init__ : FnI := ⟨["self"], 2, [(1, [])], [], t_MostTally____init__⟩
def t_LeastTally____init__ : T := .cons (.sup "LeastTally" "__init__" (.cons (.str "(tally down)") .nil)) .nil
def f_LeastTally____init__ : FnI := ⟨["self"], 2, [(1, [])], [], t_LeastTally____init__⟩
def t_UnknownGrade____init___1 : T := .cons (.seta (.var 0) "name" (.var 1)) .nil
def t_UnknownGrade____init__ : T := .cons (.sup "UnknownGrade" "__init__" (.cons (.str "the scale has no such grade") .nil)) t_UnknownGrade____init___1
def f_UnknownGrade____init__ : FnI := ⟨["self", "name"], 3, [(2, [])], [], t_UnknownGrade____init__⟩
def t__law_draws_2 : T := .cons (.ret (.lst (.cons (.lc (.blt .int (.cons (.var 2) .nil)) 2 (.iter (.var 0)) (.tru (.bl true))) (.cons (.int (0)) (.cons (.var 1) (.cons (.int (0)) .nil)))))) .nil
def t__law_draws_1c : T := .cons (.asg (.gn 1) (.bin .Mod (.blt .int (.cons (.bin .Add (.bin .Add (.bin .Mult (.var 1) (.int (1000003))) (.bin .Mult (.var 2) (.int (7919)))) (.int (1))) .nil)) (.int (998244353)))) .nil
def t__law_draws_1 : T := .cons (.for_ (.gn 2) (.iter (.var 0)) t__law_draws_1c) t__law_draws_2
def t__law_draws : T := .cons (.asg (.gn 1) (.int (7))) t__law_draws_1
def f__law_draws : FnI := ⟨["_law_script"], 3, [(1, [])], [], t__law_draws⟩
def t__law_draw_7 : T := .cons (.ret (.bin .Mod (.blt .int (.cons (.bin .FloorDiv (.var 4) (.int (8))) .nil)) (.var 1))) .nil
def t__law_draw_6 : T := .cons (.asg (.gn 4) (.bin .Mod (.blt .int (.cons (.bin .Add (.bin .Mult (.var 4) (.int (48271))) (.bin .Mult (.idx (.var 0) (.int (3))) (.int (69621)))) .nil)) (.int (2147483647)))) t__law_draw_7
def t__law_draw_5 : T := .cons (.asg (.gn 4) (.bin .Mod (.blt .int (.cons (.bin .Mult (.var 4) (.var 4)) .nil)) (.int (1000000007)))) t__law_draw_6
def t__law_draw_4 : T := .cons (.asg (.gn 4) (.bin .Mod (.blt .int (.cons (.bin .Add (.idx (.var 0) (.int (2))) (.bin .Mult (.idx (.var 0) (.int (3))) (.int (7919)))) .nil)) (.int (998244353)))) t__law_draw_5
def t__law_draw_3 : T := .cons (.augs (.var 0) (.int (3)) .Add (.int (1))) t__law_draw_4
def t__law_draw_2a_2 : T := .cons (.ret (.var 3)) .nil
def t__law_draw_2a_1 : T := .cons (.sets (.var 0) (.int (1)) (.bin .FloorDiv (.idx (.var 0) (.int (1))) (.var 1))) t__law_draw_2a_2
def t__law_draw_2a : T := .cons (.asg (.gn 3) (.bin .Mod (.blt .int (.cons (.idx (.var 0) (.int (1))) .nil)) (.var 1))) t__law_draw_2a_1
def t__law_draw_2 : T := .cons (.ifs (.cmp .Gt (.idx (.var 0) (.int (1))) (.int (1))) t__law_draw_2a .nil) t__law_draw_3
def t__law_draw_1c_1 : T := .cons (.sets (.var 0) (.int (1)) (.ite (.cmp .Gt (.var 2) (.int (0))) (.var 2) (.neg (.var 2)))) .nil
def t__law_draw_1c : T := .cons (.asg (.gn 2) (.bm .popAt (.idx (.var 0) (.int (0))) (.cons (.int (0)) .nil))) t__law_draw_1c_1
def t__law_draw_1 : T := .cons (.whl (.and (.cmp .Lt (.idx (.var 0) (.int (1))) (.int (2))) (.cmp .Gt (.blt .len (.cons (.idx (.var 0) (.int (0))) .nil)) (.int (0)))) t__law_draw_1c) t__law_draw_2
def t__law_drawa : T := .cons (.ret (.int (0))) .nil
def t__law_draw : T := .cons (.ifs (.cmp .Lt (.var 1) (.int (2))) t__law_drawa .nil) t__law_draw_1
def f__law_draw : FnI := ⟨["_law_state", "_law_many"], 5, [(2, [])], [], t__law_draw⟩
def t__law_same_9 : T := .cons (.ret (.bl true)) .nil
def t__law_same_8ca : T := .cons (.ret (.bl false)) .nil
def t__law_same_8c : T := .cons (.ifs (.not (.tru (.call "_law_same" (.cons (.idx (.var 0) (.var 2)) (.cons (.idx (.var 1) (.var 2)) .nil))))) t__law_same_8ca .nil) .nil
def t__law_same_8 : T := .cons (.for_ (.gn 2) (.rng1 (.blt .len (.cons (.var 1) .nil))) t__law_same_8c) t__law_same_9
def t__law_same_7a : T := .cons (.ret (.bl false)) .nil
def t__law_same_7 : T := .cons (.ifs (.cmp .NotEq (.blt .len (.cons (.var 0) .nil)) (.blt .len (.cons (.var 1) .nil))) t__law_same_7a .nil) t__law_same_8
def t__law_same_6a : T := .cons (.ret (.bl false)) .nil
def t__law_same_6 : T := .cons (.ifs (.and (.tru (.isi (.var 1) [(.blt "list")])) (.not (.tru (.isi (.var 0) [(.blt "list")])))) t__law_same_6a .nil) t__law_same_7
def t__law_same_5a : T := .cons (.ret (.bl false)) .nil
def t__law_same_5 : T := .cons (.ifs (.and (.tru (.isi (.var 1) [(.blt "tuple")])) (.not (.tru (.isi (.var 0) [(.blt "tuple")])))) t__law_same_5a .nil) t__law_same_6
def t__law_same_4a : T := .cons (.ret (.and (.isi (.var 0) [(.blt "str")]) (.cmp .Eq (.var 0) (.var 1)))) .nil
def t__law_same_4 : T := .cons (.ifs (.tru (.isi (.var 1) [(.blt "str")])) t__law_same_4a .nil) t__law_same_5
def t__law_same_3a : T := .cons (.ret (.and (.isi (.var 0) [(.blt "int")]) (.and (.not (.isi (.var 0) [(.blt "bool")])) (.cmp .Eq (.var 0) (.var 1))))) .nil
def t__law_same_3 : T := .cons (.ifs (.tru (.isi (.var 1) [(.blt "int")])) t__law_same_3a .nil) t__law_same_4
def t__law_same_2a : T := .cons (.ret (.cmp .Is (.var 0) (.bl false))) .nil
def t__law_same_2 : T := .cons (.ifs (.cmp .Is (.var 1) (.bl false)) t__law_same_2a .nil) t__law_same_3
def t__law_same_1a : T := .cons (.ret (.cmp .Is (.var 0) (.bl true))) .nil
def t__law_same_1 : T := .cons (.ifs (.cmp .Is (.var 1) (.bl true)) t__law_same_1a .nil) t__law_same_2
def t__law_samea : T := .cons (.ret (.cmp .Is (.var 0) .non)) .nil
def t__law_same : T := .cons (.ifs (.cmp .Is (.var 1) .non) t__law_samea .nil) t__law_same_1
def f__law_same : FnI := ⟨["_law_found", "_law_due"], 3, [(2, [])], [], t__law_same⟩
def t__law_number_4 : T := .cons (.ret (.var 2)) .nil
def t__law_number_3ac : T := .cons (.asg (.gn 2) (.bin .Mult (.var 2) (.bin .Pow (.int (10)) (.int (50))))) .nil
def t__law_number_3a : T := .cons (.for_ (.gn 3) (.rng1 (.int (38))) t__law_number_3ac) .nil
def t__law_number_3 : T := .cons (.ifs (.cmp .Eq (.var 1) (.int (5))) t__law_number_3a .nil) t__law_number_4
def t__law_number_2 : T := .cons (.asg (.gn 2) (.call "_law_draw" (.cons (.var 0) (.cons (.bin .Pow (.int (10)) (.int (60))) .nil)))) t__law_number_3
def t__law_number_1a : T := .cons (.ret (.call "_law_draw" (.cons (.var 0) (.cons (.int (10)) .nil)))) .nil
def t__law_number_1 : T := .cons (.ifs (.cmp .Lt (.var 1) (.int (2))) t__law_number_1a .nil) t__law_number_2
def t__law_number : T := .cons (.asg (.gn 1) (.call "_law_draw" (.cons (.var 0) (.cons (.int (6)) .nil)))) t__law_number_1
def f__law_number : FnI := ⟨["_law_state"], 4, [(1, [])], [], t__law_number⟩
def t__law_within_2 : T := .cons (.ret (.cmp .Eq (.var 1) (.var 2))) .nil
def t__law_within_1a : T := .cons (.ret (.cmp .GtE (.var 1) (.var 2))) .nil
def t__law_within_1 : T := .cons (.ifs (.cmp .Eq (.var 0) (.int (2))) t__law_within_1a .nil) t__law_within_2
def t__law_withina : T := .cons (.ret (.cmp .LtE (.var 1) (.var 2))) .nil
def t__law_within : T := .cons (.ifs (.cmp .Eq (.var 0) (.int (1))) t__law_withina .nil) t__law_within_1
def f__law_within : FnI := ⟨["_law_sort", "_law_a", "_law_b"], 3, [(3, [])], [], t__law_within⟩
def t__law_bound_2 : T := .cons (.ret .non) .nil
def t__law_bound_1a : T := .cons (.ret (.var 1)) .nil
def t__law_bound_1 : T := .cons (.ifs (.tru (.call "_law_within" (.cons (.var 0) (.cons (.var 2) (.cons (.var 1) .nil))))) t__law_bound_1a .nil) t__law_bound_2
def t__law_bounda : T := .cons (.ret (.var 2)) .nil
def t__law_bound : T := .cons (.ifs (.tru (.call "_law_within" (.cons (.var 0) (.cons (.var 1) (.cons (.var 2) .nil))))) t__law_bounda .nil) t__law_bound_1
def f__law_bound : FnI := ⟨["_law_sort", "_law_a", "_law_b"], 3, [(3, [])], [], t__law_bound⟩
def t__law_endless_2 : T := .cons (.ret (.call "_law_same" (.cons (.var 1) (.cons (.lst (.cons (.bl true) (.cons (.bl true) .nil))) .nil)))) .nil
def t__law_endless_1t : T := .cons (.expr (.meth (.var 0) "places" .nil)) .nil
def t__law_endless_1s : T := .cons (.asg (.gn 1) (.lst (.cons (.xis 2 (.own "UsescaleError")) (.cons (.xis 2 (.blt "ValueError")) .nil)))) .nil
def t__law_endless_1 : T := .cons (.trya t__law_endless_1t [(.own "EndlessScale")] 2 t__law_endless_1s) t__law_endless_2
def t__law_endless : T := .cons (.asg (.gn 1) (.lst .nil)) t__law_endless_1
def f__law_endless : FnI := ⟨["_law_scale"], 3, [(1, [])], [], t__law_endless⟩
def t__law_unknown_2 : T := .cons (.ret (.call "_law_same" (.cons (.var 2) (.cons (.lst (.cons (.var 1) (.cons (.bl false) .nil))) .nil)))) .nil
def t__law_unknown_1t : T := .cons (.expr (.meth (.var 0) "at_name" (.cons (.var 1) .nil))) .nil
def t__law_unknown_1s : T := .cons (.asg (.gn 2) (.lst (.cons (.xf 3 "name") (.cons (.xis 3 (.own "UsescaleError")) .nil)))) .nil
def t__law_unknown_1 : T := .cons (.trya t__law_unknown_1t [(.own "UnknownGrade")] 3 t__law_unknown_1s) t__law_unknown_2
def t__law_unknown : T := .cons (.asg (.gn 2) (.lst .nil)) t__law_unknown_1
def f__law_unknown : FnI := ⟨["_law_scale", "_law_word"], 4, [(2, [])], [], t__law_unknown⟩
def t__law_far_right_2 : T := .cons (.ret (.call "_law_same" (.cons (.lst (.cons (.meth (.var 1) "name_at" (.cons (.var 2) .nil)) (.cons (.meth (.var 1) "at_name" (.cons (.blt .str (.cons (.var 2) .nil)) .nil)) .nil))) (.cons (.lst (.cons (.blt .str (.cons (.var 2) .nil)) (.cons (.var 2) .nil))) .nil)))) .nil
def t__law_far_right_1c : T := .cons (.asg (.gn 2) (.bin .Mult (.var 2) (.bin .Pow (.int (10)) (.int (50))))) .nil
def t__law_far_right_1 : T := .cons (.for_ (.gn 3) (.rng1 (.bin .Add (.int (40)) (.call "_law_draw" (.cons (.var 0) (.cons (.int (39)) .nil))))) t__law_far_right_1c) t__law_far_right_2
def t__law_far_right : T := .cons (.asg (.gn 2) (.bin .Add (.bin .Pow (.int (10)) (.int (49))) (.call "_law_draw" (.cons (.var 0) (.cons (.bin .Pow (.int (10)) (.int (40))) .nil))))) t__law_far_right_1
def f__law_far_right : FnI := ⟨["_law_state", "_law_scale"], 4, [(2, [])], [], t__law_far_right⟩
def t_law_13 : T := .cons (.ret (.call "_law_unknown" (.cons (.var 3) (.cons (.idx (.var 12) (.call "_law_draw" (.cons (.var 1) (.cons (.int (10)) .nil)))) .nil)))) .nil
def t_law_12a : T := .cons (.ret (.bl false)) .nil
def t_law_12 : T := .cons (.ifs (.not (.tru (.call "_law_unknown" (.cons (.var 3) (.cons (.idx (.var 12) (.call "_law_draw" (.cons (.var 1) (.cons (.int (10)) .nil)))) .nil))))) t_law_12a .nil) t_law_13
def t_law_11 : T := .cons (.asg (.gn 12) (.lst (.cons (.str "") (.cons (.str "00") (.cons (.str "-1") (.cons (.str "+1") (.cons (.str "1_0") (.cons (.str " 1") (.cons (.str "1 ") (.cons (.str "many") (.cons (.bin .Add (.str "0") (.blt .str (.cons (.bin .Add (.int (1)) (.call "_law_draw" (.cons (.var 1) (.cons (.bin .Pow (.int (10)) (.int (30))) .nil)))) .nil))) (.cons (.str "1/1") .nil)))))))))))) t_law_12
def t_law_10a : T := .cons (.ret (.bl false)) .nil
def t_law_10 : T := .cons (.ifs (.not (.tru (.call "_law_far_right" (.cons (.var 1) (.cons (.var 3) .nil))))) t_law_10a .nil) t_law_11
def t_law_9a : T := .cons (.ret (.bl false)) .nil
def t_law_9 : T := .cons (.ifs (.not (.tru (.call "_law_endless" (.cons (.var 3) .nil)))) t_law_9a .nil) t_law_10
def t_law_8a : T := .cons (.ret (.bl false)) .nil
def t_law_8 : T := .cons (.ifs (.not (.tru (.call "_law_same" (.cons (.lst (.cons (.meth (.var 3) "name_at" (.cons (.int (0)) .nil)) (.cons (.meth (.var 3) "at_name" (.cons (.str "0") .nil)) (.cons (.meth (.var 3) "times_at" (.cons (.int (0)) .nil)) .nil)))) (.cons (.lst (.cons (.str "0") (.cons (.int (0)) (.cons (.int (0)) .nil)))) .nil))))) t_law_8a .nil) t_law_9
def t_law_7c_10a : T := .cons (.ret (.bl false)) .nil
def t_law_7c_10 : T := .cons (.ifs (.not (.tru (.call "_law_same" (.cons (.var 9) (.cons (.var 10) .nil))))) t_law_7c_10a .nil) .nil
def t_law_7c_9a : T := .cons (.ret (.bl false)) .nil
def t_law_7c_9 : T := .cons (.ifs (.not (.tru (.call "_law_same" (.cons (.meth (.var 3) "times_at" (.cons (.var 11) .nil)) (.cons (.var 11) .nil))))) t_law_7c_9a .nil) t_law_7c_10
def t_law_7c_8 : T := .cons (.asg (.gn 11) (.bin .Mod (.blt .int (.cons (.var 7) .nil)) (.bin .Pow (.int (10)) (.int (60))))) t_law_7c_9
def t_law_7c_7 : T := .cons (.asg (.gn 10) (.bin .Add (.var 10) (.lst (.cons (.call "_law_bound" (.cons (.var 2) (.cons (.var 7) (.cons (.var 8) .nil)))) (.cons (.blt .str (.cons (.var 7) .nil)) (.cons (.var 7) .nil)))))) t_law_7c_8
def t_law_7c_6 : T := .cons (.asg (.gn 9) (.bin .Add (.var 9) (.lst (.cons (.meth (.var 3) "bound_at" (.cons (.var 7) (.cons (.var 8) .nil))) (.cons (.meth (.var 3) "name_at" (.cons (.var 7) .nil)) (.cons (.meth (.var 3) "at_name" (.cons (.blt .str (.cons (.var 7) .nil)) .nil)) .nil)))))) t_law_7c_7
def t_law_7c_5 : T := .cons (.asg (.gn 10) (.lst (.cons (.bin .Add (.var 7) (.var 8)) (.cons (.bin .Mult (.var 7) (.var 8)) (.cons (.call "_law_within" (.cons (.var 2) (.cons (.var 7) (.cons (.var 8) .nil)))) (.cons (.call "_law_within" (.cons (.var 2) (.cons (.var 8) (.cons (.var 7) .nil)))) .nil)))))) t_law_7c_6
def t_law_7c_4 : T := .cons (.asg (.gn 9) (.lst (.cons (.meth (.var 3) "sum_at" (.cons (.var 7) (.cons (.var 8) .nil))) (.cons (.meth (.var 3) "product_at" (.cons (.var 7) (.cons (.var 8) .nil))) (.cons (.meth (.var 3) "within_at" (.cons (.var 7) (.cons (.var 8) .nil))) (.cons (.meth (.var 3) "within_at" (.cons (.var 8) (.cons (.var 7) .nil))) .nil)))))) t_law_7c_5
def t_law_7c_3a : T := .cons (.asg (.gn 8) (.bin .Sub (.bin .Add (.var 7) (.var 6)) (.int (1)))) .nil
def t_law_7c_3 : T := .cons (.ifs (.and (.cmp .Lt (.var 6) (.int (3))) (.cmp .Gt (.bin .Add (.var 7) (.var 6)) (.int (0)))) t_law_7c_3a .nil) t_law_7c_4
def t_law_7c_2 : T := .cons (.asg (.gn 8) (.call "_law_number" (.cons (.var 1) .nil))) t_law_7c_3
def t_law_7c_1 : T := .cons (.asg (.gn 7) (.call "_law_number" (.cons (.var 1) .nil))) t_law_7c_2
def t_law_7c : T := .cons (.asg (.gn 6) (.call "_law_draw" (.cons (.var 1) (.cons (.int (9)) .nil)))) t_law_7c_1
def t_law_7 : T := .cons (.for_ (.gn 5) (.rng1 (.bin .Add (.int (1)) (.call "_law_draw" (.cons (.var 1) (.cons (.int (12)) .nil))))) t_law_7c) t_law_8
def t_law_6a : T := .cons (.ret (.bl false)) .nil
def t_law_6 : T := .cons (.ifs (.not (.tru (.call "_law_same" (.cons (.var 4) (.cons (.lst (.cons .non (.cons (.int (0)) (.cons (.int (1)) (.cons (.idx (.lst (.cons (.str "(tally same)") (.cons (.str "(tally up)") (.cons (.str "(tally down)") .nil)))) (.var 2)) .nil))))) .nil))))) t_law_6a .nil) t_law_7
def t_law_5 : T := .cons (.asg (.gn 4) (.lst (.cons (.att (.var 3) "size") (.cons (.att (.var 3) "zero_at") (.cons (.att (.var 3) "one_at") (.cons (.att (.var 3) "label") .nil)))))) t_law_6
def t_law_4a : T := .cons (.asg (.gn 3) (.mk "LeastTally" .nil [] .nil)) .nil
def t_law_4 : T := .cons (.ifs (.cmp .Eq (.var 2) (.int (2))) t_law_4a .nil) t_law_5
def t_law_3a : T := .cons (.asg (.gn 3) (.mk "MostTally" .nil [] .nil)) .nil
def t_law_3 : T := .cons (.ifs (.cmp .Eq (.var 2) (.int (1))) t_law_3a .nil) t_law_4
def t_law_2 : T := .cons (.asg (.gn 3) (.mk "ExactTally" .nil [] .nil)) t_law_3
def t_law_1 : T := .cons (.asg (.gn 2) (.call "_law_draw" (.cons (.var 1) (.cons (.int (3)) .nil)))) t_law_2
def t_law : T := .cons (.asg (.gn 1) (.call "_law_draws" (.cons (.var 0) .nil))) t_law_1
def f_law : FnI := ⟨["_law_script"], 13, [(1, [])], [], t_law⟩
def c_ExactTally : ClsI := ⟨"ExactTally.__init__", [("within_at", "SameOrder.within_at"), ("bound_at", "SameOrder.bound_at"), ("places", "Tally.places"), ("sum_at", "Tally.sum_at"), ("product_at", "Tally.product_at"), ("name_at", "Tally.name_at"), ("at_name", "Tally.at_name"), ("times_at", "Tally.times_at")], ["size", "zero_at", "one_at", "label", "depth"]⟩
def c_MostTally : ClsI := ⟨"MostTally.__init__", [("within_at", "UpOrder.within_at"), ("bound_at", "UpOrder.bound_at"), ("places", "Tally.places"), ("sum_at", "Tally.sum_at"), ("product_at", "Tally.product_at"), ("name_at", "Tally.name_at"), ("at_name", "Tally.at_name"), ("times_at", "Tally.times_at")], ["size", "zero_at", "one_at", "label", "depth"]⟩
def c_LeastTally : ClsI := ⟨"LeastTally.__init__", [("within_at", "DownOrder.within_at"), ("bound_at", "DownOrder.bound_at"), ("places", "Tally.places"), ("sum_at", "Tally.sum_at"), ("product_at", "Tally.product_at"), ("name_at", "Tally.name_at"), ("at_name", "Tally.at_name"), ("times_at", "Tally.times_at")], ["size", "zero_at", "one_at", "label", "depth"]⟩
def cls : List (Str × ClsI) := [("ExactTally", c_ExactTally), ("MostTally", c_MostTally), ("LeastTally", c_LeastTally)]
def d_fns_0 : List (Str × FnI) := [("Scale.__init__", f_Scale____init__), ("Scale.places", f_Scale__places), ("Scale.sum_at", f_Scale__sum_at), ("Scale.product_at", f_Scale__product_at), ("Scale.within_at", f_Scale__within_at), ("Scale.bound_at", f_Scale__bound_at), ("Scale.name_at", f_Scale__name_at), ("Scale.at_name", f_Scale__at_name), ("Scale.times_at", f_Scale__times_at), ("Tally.__init__", f_Tally____init__), ("Tally.places", f_Tally__places), ("Tally.sum_at", f_Tally__sum_at), ("Tally.product_at", f_Tally__product_at), ("Tally.name_at", f_Tally__name_at), ("Tally.at_name", f_Tally__at_name), ("Tally.times_at", f_Tally__times_at), ("SameOrder.within_at", f_SameOrder__within_at), ("SameOrder.bound_at", f_SameOrder__bound_at), ("UpOrder.within_at", f_UpOrder__within_at), ("UpOrder.bound_at", f_UpOrder__bound_at)]
def d_fns_1 : List (Str × FnI) := [("DownOrder.within_at", f_DownOrder__within_at), ("DownOrder.bound_at", f_DownOrder__bound_at), ("ExactTally.__init__", f_ExactTally____init__), ("MostTally.__init__", f_MostTally____init__), ("LeastTally.__init__", f_LeastTally____init__), ("UnknownGrade.__init__", f_UnknownGrade____init__), ("_law_draws", f__law_draws), ("_law_draw", f__law_draw), ("_law_same", f__law_same), ("_law_number", f__law_number), ("_law_within", f__law_within), ("_law_bound", f__law_bound), ("_law_endless", f__law_endless), ("_law_unknown", f__law_unknown), ("_law_far_right", f__law_far_right), ("law", f_law)]
def d_fns : List (Str × FnI) := d_fns_0 ++ (d_fns_1)
def d_ats_0 : List (Str × (Str × Option Str)) := [("Scale.__init__", ("Scale", some "__init__")), ("Scale.places", ("Scale", some "places")), ("Scale.sum_at", ("Scale", some "sum_at")), ("Scale.product_at", ("Scale", some "product_at")), ("Scale.within_at", ("Scale", some "within_at")), ("Scale.bound_at", ("Scale", some "bound_at")), ("Scale.name_at", ("Scale", some "name_at")), ("Scale.at_name", ("Scale", some "at_name")), ("Scale.times_at", ("Scale", some "times_at")), ("Tally.__init__", ("Tally", some "__init__")), ("Tally.places", ("Tally", some "places")), ("Tally.sum_at", ("Tally", some "sum_at")), ("Tally.product_at", ("Tally", some "product_at")), ("Tally.name_at", ("Tally", some "name_at")), ("Tally.at_name", ("Tally", some "at_name")), ("Tally.times_at", ("Tally", some "times_at")), ("SameOrder.within_at", ("SameOrder", some "within_at")), ("SameOrder.bound_at", ("SameOrder", some "bound_at")), ("UpOrder.within_at", ("UpOrder", some "within_at")), ("UpOrder.bound_at", ("UpOrder", some "bound_at"))]
def d_ats_1 : List (Str × (Str × Option Str)) := [("DownOrder.within_at", ("DownOrder", some "within_at")), ("DownOrder.bound_at", ("DownOrder", some "bound_at")), ("ExactTally.__init__", ("ExactTally", some "__init__")), ("MostTally.__init__", ("MostTally", some "__init__")), ("LeastTally.__init__", ("LeastTally", some "__init__")), ("UnknownGrade.__init__", ("UnknownGrade", some "__init__")), ("_law_draws", ("_law_draws", none)), ("_law_draw", ("_law_draw", none)), ("_law_same", ("_law_same", none)), ("_law_number", ("_law_number", none)), ("_law_within", ("_law_within", none)), ("_law_bound", ("_law_bound", none)), ("_law_endless", ("_law_endless", none)), ("_law_unknown", ("_law_unknown", none)), ("_law_far_right", ("_law_far_right", none)), ("law", ("law", none))]
def d_ats : List (Str × (Str × Option Str)) := d_ats_0 ++ (d_ats_1)
def d_gls : List (Str) := ["_law_draws", "_law_draw", "_law_same", "_law_number", "_law_within", "_law_bound", "_law_endless", "_law_unknown", "_law_far_right", "law"]
def d_cons : List (Str × W) := [("MOST_FIGURES", (.int 4300)), ("FIGURES", (.str "0123456789"))]
def d_free : List (Str) := ["len", "int", "range", "isinstance", "super", "all", "list", "tuple", "str", "bool", "ValueError", "LookupError"]
def d_kds : List (Str × List Str) := []
def d_isa_0 : List (Str × XC × Bool) := [("ExactTally", .blt "bool", false), ("ExactTally", .blt "int", false), ("ExactTally", .blt "list", false), ("ExactTally", .blt "str", false), ("ExactTally", .blt "tuple", false), ("MostTally", .blt "bool", false), ("MostTally", .blt "int", false), ("MostTally", .blt "list", false), ("MostTally", .blt "str", false), ("MostTally", .blt "tuple", false), ("LeastTally", .blt "bool", false), ("LeastTally", .blt "int", false), ("LeastTally", .blt "list", false), ("LeastTally", .blt "str", false), ("LeastTally", .blt "tuple", false), ("UsescaleError", .own "UsescaleError", true), ("UsescaleError", .blt "ValueError", true), ("EndlessScale", .own "UsescaleError", true), ("EndlessScale", .blt "ValueError", true), ("NameMissing", .own "UsescaleError", false)]
def d_isa_1 : List (Str × XC × Bool) := [("NameMissing", .blt "ValueError", false), ("UnknownGrade", .own "UsescaleError", false), ("UnknownGrade", .blt "ValueError", false)]
def d_isa : List (Str × XC × Bool) := d_isa_0 ++ (d_isa_1)
def d_sup : List (Str × Str × Str) := [("ExactTally", "ExactTally", "Tally.__init__"), ("ExactTally", "Tally", "Scale.__init__"), ("MostTally", "MostTally", "Tally.__init__"), ("MostTally", "Tally", "Scale.__init__"), ("LeastTally", "LeastTally", "Tally.__init__"), ("LeastTally", "Tally", "Scale.__init__")]
def x_UsescaleError : ExI := ⟨"ValueError", none, 0, [], ""⟩
def x_EndlessScale : ExI := ⟨"ValueError", none, 0, [], ""⟩
def x_NameMissing : ExI := ⟨"LookupError", none, 0, [], ""⟩
def x_UnknownGrade : ExI := ⟨"LookupError", some "UnknownGrade.__init__", 1, [("name", 0)], "UnknownGrade"⟩
def d_exn : List (Str × ExI) := [("UsescaleError", x_UsescaleError), ("EndlessScale", x_EndlessScale), ("NameMissing", x_NameMissing), ("UnknownGrade", x_UnknownGrade)]
def d_exm : List (XC × XC × Bool) := [(.own "UsescaleError", .own "EndlessScale", false), (.own "UsescaleError", .own "UnknownGrade", false), (.own "EndlessScale", .own "EndlessScale", true), (.own "EndlessScale", .own "UnknownGrade", false), (.own "NameMissing", .own "EndlessScale", false), (.own "NameMissing", .own "UnknownGrade", false), (.own "UnknownGrade", .own "EndlessScale", false), (.own "UnknownGrade", .own "UnknownGrade", true)]
def D : Dn := ⟨d_fns, d_ats, d_gls, cls, d_cons, d_free, d_isa, d_sup, d_exn, d_exm, d_kds⟩
def u_Scale____init__ : DU where
  key := "Scale.__init__"
  d := ⟨("Scale", some "__init__"), "__init__", "Scale.__init__", defArgs (cst 7 0), defBody (cst 7 0), defScope (cst 7 0), [(.int 1)], []⟩
  sup := none
  N := ["self", "size", "zero_at", "one_at", "label", "depth"]
def u_Scale__places : DU where
  key := "Scale.places"
  d := ⟨("Scale", some "places"), "places", "Scale.places", defArgs (cst 7 1), defBody (cst 7 1), defScope (cst 7 1), [], []⟩
  sup := none
  N := ["self"]
def u_Scale__sum_at : DU where
  key := "Scale.sum_at"
  d := ⟨("Scale", some "sum_at"), "sum_at", "Scale.sum_at", defArgs (cst 7 2), defBody (cst 7 2), defScope (cst 7 2), [], []⟩
  sup := none
  N := ["self", "first", "second"]
def u_Scale__product_at : DU where
  key := "Scale.product_at"
  d := ⟨("Scale", some "product_at"), "product_at", "Scale.product_at", defArgs (cst 7 3), defBody (cst 7 3), defScope (cst 7 3), [], []⟩
  sup := none
  N := ["self", "first", "second"]
def u_Scale__within_at : DU where
  key := "Scale.within_at"
  d := ⟨("Scale", some "within_at"), "within_at", "Scale.within_at", defArgs (cst 7 4), defBody (cst 7 4), defScope (cst 7 4), [], []⟩
  sup := none
  N := ["self", "first", "second"]
def u_Scale__bound_at : DU where
  key := "Scale.bound_at"
  d := ⟨("Scale", some "bound_at"), "bound_at", "Scale.bound_at", defArgs (cst 7 5), defBody (cst 7 5), defScope (cst 7 5), [], []⟩
  sup := none
  N := ["self", "first", "second", "above", "at", "other"]
def u_Scale__name_at : DU where
  key := "Scale.name_at"
  d := ⟨("Scale", some "name_at"), "name_at", "Scale.name_at", defArgs (cst 7 6), defBody (cst 7 6), defScope (cst 7 6), [], []⟩
  sup := none
  N := ["self", "place"]
def u_Scale__at_name : DU where
  key := "Scale.at_name"
  d := ⟨("Scale", some "at_name"), "at_name", "Scale.at_name", defArgs (cst 7 7), defBody (cst 7 7), defScope (cst 7 7), [], []⟩
  sup := none
  N := ["self", "name", "at"]
def u_Scale__times_at : DU where
  key := "Scale.times_at"
  d := ⟨("Scale", some "times_at"), "times_at", "Scale.times_at", defArgs (cst 7 8), defBody (cst 7 8), defScope (cst 7 8), [], []⟩
  sup := none
  N := ["self", "count", "sums", "following", "start"]
def u_Tally____init__ : DU where
  key := "Tally.__init__"
  d := ⟨("Tally", some "__init__"), "__init__", "Tally.__init__", defArgs (cst 11 0), defBody (cst 11 0), defScope (cst 11 0), [], []⟩
  sup := some "Tally"
  N := ["self", "label", "__class__"]
def u_Tally__places : DU where
  key := "Tally.places"
  d := ⟨("Tally", some "places"), "places", "Tally.places", defArgs (cst 11 1), defBody (cst 11 1), defScope (cst 11 1), [], []⟩
  sup := none
  N := ["self"]
def u_Tally__sum_at : DU where
  key := "Tally.sum_at"
  d := ⟨("Tally", some "sum_at"), "sum_at", "Tally.sum_at", defArgs (cst 11 2), defBody (cst 11 2), defScope (cst 11 2), [], []⟩
  sup := none
  N := ["self", "first", "second"]
def u_Tally__product_at : DU where
  key := "Tally.product_at"
  d := ⟨("Tally", some "product_at"), "product_at", "Tally.product_at", defArgs (cst 11 3), defBody (cst 11 3), defScope (cst 11 3), [], []⟩
  sup := none
  N := ["self", "first", "second"]
def u_Tally__name_at : DU where
  key := "Tally.name_at"
  d := ⟨("Tally", some "name_at"), "name_at", "Tally.name_at", defArgs (cst 11 4), defBody (cst 11 4), defScope (cst 11 4), [], []⟩
  sup := none
  N := ["self", "place"]
def u_Tally__at_name : DU where
  key := "Tally.at_name"
  d := ⟨("Tally", some "at_name"), "at_name", "Tally.at_name", defArgs (cst 11 5), defBody (cst 11 5), defScope (cst 11 5), [], []⟩
  sup := none
  N := ["self", "name", "sign"]
def u_Tally__times_at : DU where
  key := "Tally.times_at"
  d := ⟨("Tally", some "times_at"), "times_at", "Tally.times_at", defArgs (cst 11 6), defBody (cst 11 6), defScope (cst 11 6), [], []⟩
  sup := none
  N := ["self", "count"]
def u_SameOrder__within_at : DU where
  key := "SameOrder.within_at"
  d := ⟨("SameOrder", some "within_at"), "within_at", "SameOrder.within_at", defArgs (cst 12 0), defBody (cst 12 0), defScope (cst 12 0), [], []⟩
  sup := none
  N := ["self", "first", "second"]
def u_SameOrder__bound_at : DU where
  key := "SameOrder.bound_at"
  d := ⟨("SameOrder", some "bound_at"), "bound_at", "SameOrder.bound_at", defArgs (cst 12 1), defBody (cst 12 1), defScope (cst 12 1), [], []⟩
  sup := none
  N := ["self", "first", "second"]
def u_UpOrder__within_at : DU where
  key := "UpOrder.within_at"
  d := ⟨("UpOrder", some "within_at"), "within_at", "UpOrder.within_at", defArgs (cst 13 0), defBody (cst 13 0), defScope (cst 13 0), [], []⟩
  sup := none
  N := ["self", "first", "second"]
def u_UpOrder__bound_at : DU where
  key := "UpOrder.bound_at"
  d := ⟨("UpOrder", some "bound_at"), "bound_at", "UpOrder.bound_at", defArgs (cst 13 1), defBody (cst 13 1), defScope (cst 13 1), [], []⟩
  sup := none
  N := ["self", "first", "second"]
def u_DownOrder__within_at : DU where
  key := "DownOrder.within_at"
  d := ⟨("DownOrder", some "within_at"), "within_at", "DownOrder.within_at", defArgs (cst 14 0), defBody (cst 14 0), defScope (cst 14 0), [], []⟩
  sup := none
  N := ["self", "first", "second"]
def u_DownOrder__bound_at : DU where
  key := "DownOrder.bound_at"
  d := ⟨("DownOrder", some "bound_at"), "bound_at", "DownOrder.bound_at", defArgs (cst 14 1), defBody (cst 14 1), defScope (cst 14 1), [], []⟩
  sup := none
  N := ["self", "first", "second"]
def u_ExactTally____init__ : DU where
  key := "ExactTally.__init__"
  d := ⟨("ExactTally", some "__init__"), "__init__", "ExactTally.__init__", defArgs (cst 15 0), defBody (cst 15 0), defScope (cst 15 0), [], []⟩
  sup := some "ExactTally"
  N := ["self", "__class__"]
def u_MostTally____init__ : DU where
  key := "MostTally.__init__"
  d := ⟨("MostTally", some "__init__"), "__init__", "MostTally.__init__", defArgs (cst 16 0), defBody (cst 16 0), defScope (cst 16 0), [], []⟩
  sup := some "MostTally"
  N := ["self", "__class__"]
def u_LeastTally____init__ : DU where
  key := "LeastTally.__init__"
  d := ⟨("LeastTally", some "__init__"), "__init__", "LeastTally.__init__", defArgs (cst 17 0), defBody (cst 17 0), defScope (cst 17 0), [], []⟩
  sup := some "LeastTally"
  N := ["self", "__class__"]
def u_UnknownGrade____init__ : DU where
  key := "UnknownGrade.__init__"
  d := ⟨("UnknownGrade", some "__init__"), "__init__", "UnknownGrade.__init__", defArgs (cst 5 0), defBody (cst 5 0), defScope (cst 5 0), [], []⟩
  sup := some "UnknownGrade"
  N := ["self", "name", "__class__"]
def u__law_draws : DU where
  key := "_law_draws"
  d := ⟨("_law_draws", none), "_law_draws", "_law_draws", defArgs (top 19), defBody (top 19), defScope (top 19), [], []⟩
  sup := none
  N := ["_law_script", "_law_seed", "_law_cell"]
def u__law_draw : DU where
  key := "_law_draw"
  d := ⟨("_law_draw", none), "_law_draw", "_law_draw", defArgs (top 20), defBody (top 20), defScope (top 20), [], []⟩
  sup := none
  N := ["_law_state", "_law_many", "_law_cell", "_law_digit", "_law_value"]
def u__law_same : DU where
  key := "_law_same"
  d := ⟨("_law_same", none), "_law_same", "_law_same", defArgs (top 21), defBody (top 21), defScope (top 21), [], []⟩
  sup := none
  N := ["_law_found", "_law_due", "_law_k"]
def u__law_number : DU where
  key := "_law_number"
  d := ⟨("_law_number", none), "_law_number", "_law_number", defArgs (top 22), defBody (top 22), defScope (top 22), [], []⟩
  sup := none
  N := ["_law_state", "_law_way", "_law_number_here", "_law_k"]
def u__law_within : DU where
  key := "_law_within"
  d := ⟨("_law_within", none), "_law_within", "_law_within", defArgs (top 23), defBody (top 23), defScope (top 23), [], []⟩
  sup := none
  N := ["_law_sort", "_law_a", "_law_b"]
def u__law_bound : DU where
  key := "_law_bound"
  d := ⟨("_law_bound", none), "_law_bound", "_law_bound", defArgs (top 24), defBody (top 24), defScope (top 24), [], []⟩
  sup := none
  N := ["_law_sort", "_law_a", "_law_b"]
def u__law_endless : DU where
  key := "_law_endless"
  d := ⟨("_law_endless", none), "_law_endless", "_law_endless", defArgs (top 25), defBody (top 25), defScope (top 25), [], []⟩
  sup := none
  N := ["_law_scale", "_law_caught", "e"]
def u__law_unknown : DU where
  key := "_law_unknown"
  d := ⟨("_law_unknown", none), "_law_unknown", "_law_unknown", defArgs (top 26), defBody (top 26), defScope (top 26), [], []⟩
  sup := none
  N := ["_law_scale", "_law_word", "_law_caught", "e"]
def u__law_far_right : DU where
  key := "_law_far_right"
  d := ⟨("_law_far_right", none), "_law_far_right", "_law_far_right", defArgs (top 27), defBody (top 27), defScope (top 27), [], []⟩
  sup := none
  N := ["_law_state", "_law_scale", "_law_far", "_law_k"]
def u_law : DU where
  key := "law"
  d := ⟨("law", none), "law", "law", defArgs (top 28), defBody (top 28), defScope (top 28), [], []⟩
  sup := none
  N := ["_law_script", "_law_state", "_law_sort", "_law_scale", "_law_ends", "_law_k", "_law_step", "_law_a", "_law_b", "_law_found", "_law_due", "_law_count", "_law_words"]
def us_0 : List (DU) := [u_Scale____init__, u_Scale__places, u_Scale__sum_at, u_Scale__product_at, u_Scale__within_at, u_Scale__bound_at, u_Scale__name_at, u_Scale__at_name, u_Scale__times_at, u_Tally____init__, u_Tally__places, u_Tally__sum_at, u_Tally__product_at, u_Tally__name_at, u_Tally__at_name, u_Tally__times_at, u_SameOrder__within_at, u_SameOrder__bound_at, u_UpOrder__within_at, u_UpOrder__bound_at]
def us_1 : List (DU) := [u_DownOrder__within_at, u_DownOrder__bound_at, u_ExactTally____init__, u_MostTally____init__, u_LeastTally____init__, u_UnknownGrade____init__, u__law_draws, u__law_draw, u__law_same, u__law_number, u__law_within, u__law_bound, u__law_endless, u__law_unknown, u__law_far_right, u_law]
def us : List (DU) := us_0 ++ (us_1)
@[simp] theorem fn_Scale____init__ : D.G.fn "Scale.__init__" = some f_Scale____init__ := by kernel_rfl
@[simp] theorem ps_Scale____init__ : f_Scale____init__.ps.length = 6 := rfl
@[simp] theorem nv_Scale____init__ : f_Scale____init__.nv = 6 := rfl
theorem bo_Scale____init__ : f_Scale____init__.body = t_Scale____init__ := rfl
@[simp] theorem bd_Scale____init___5 {a0 a1 a2 a3 a4 : W} : f_Scale____init__.bind [] [a0, a1, a2, a3, a4] [] = some [a0, a1, a2, a3, a4, (.int 1)] := by kernel_rfl
@[simp] theorem fn_Scale__places : D.G.fn "Scale.places" = some f_Scale__places := by kernel_rfl
@[simp] theorem ps_Scale__places : f_Scale__places.ps.length = 1 := rfl
@[simp] theorem nv_Scale__places : f_Scale__places.nv = 1 := rfl
theorem bo_Scale__places : f_Scale__places.body = t_Scale__places := rfl
@[simp] theorem bd_Scale__places_1 {a0 : W} : f_Scale__places.bind [] [a0] [] = some [a0] := by kernel_rfl
@[simp] theorem fn_Scale__sum_at : D.G.fn "Scale.sum_at" = some f_Scale__sum_at := by kernel_rfl
@[simp] theorem ps_Scale__sum_at : f_Scale__sum_at.ps.length = 3 := rfl
@[simp] theorem nv_Scale__sum_at : f_Scale__sum_at.nv = 3 := rfl
theorem bo_Scale__sum_at : f_Scale__sum_at.body = t_Scale__sum_at := rfl
@[simp] theorem bd_Scale__sum_at_3 {a0 a1 a2 : W} : f_Scale__sum_at.bind [] [a0, a1, a2] [] = some [a0, a1, a2] := by kernel_rfl
@[simp] theorem fn_Scale__product_at : D.G.fn "Scale.product_at" = some f_Scale__product_at := by kernel_rfl
@[simp] theorem ps_Scale__product_at : f_Scale__product_at.ps.length = 3 := rfl
@[simp] theorem nv_Scale__product_at : f_Scale__product_at.nv = 3 := rfl
theorem bo_Scale__product_at : f_Scale__product_at.body = t_Scale__product_at := rfl
@[simp] theorem bd_Scale__product_at_3 {a0 a1 a2 : W} : f_Scale__product_at.bind [] [a0, a1, a2] [] = some [a0, a1, a2] := by kernel_rfl
@[simp] theorem fn_Scale__within_at : D.G.fn "Scale.within_at" = some f_Scale__within_at := by kernel_rfl
@[simp] theorem ps_Scale__within_at : f_Scale__within_at.ps.length = 3 := rfl
@[simp] theorem nv_Scale__within_at : f_Scale__within_at.nv = 3 := rfl
theorem bo_Scale__within_at : f_Scale__within_at.body = t_Scale__within_at := rfl
@[simp] theorem bd_Scale__within_at_3 {a0 a1 a2 : W} : f_Scale__within_at.bind [] [a0, a1, a2] [] = some [a0, a1, a2] := by kernel_rfl
@[simp] theorem fn_Scale__bound_at : D.G.fn "Scale.bound_at" = some f_Scale__bound_at := by kernel_rfl
@[simp] theorem ps_Scale__bound_at : f_Scale__bound_at.ps.length = 3 := rfl
@[simp] theorem nv_Scale__bound_at : f_Scale__bound_at.nv = 6 := rfl
theorem bo_Scale__bound_at : f_Scale__bound_at.body = t_Scale__bound_at := rfl
@[simp] theorem bd_Scale__bound_at_3 {a0 a1 a2 : W} : f_Scale__bound_at.bind [] [a0, a1, a2] [] = some [a0, a1, a2] := by kernel_rfl
@[simp] theorem fn_Scale__name_at : D.G.fn "Scale.name_at" = some f_Scale__name_at := by kernel_rfl
@[simp] theorem ps_Scale__name_at : f_Scale__name_at.ps.length = 2 := rfl
@[simp] theorem nv_Scale__name_at : f_Scale__name_at.nv = 2 := rfl
theorem bo_Scale__name_at : f_Scale__name_at.body = t_Scale__name_at := rfl
@[simp] theorem bd_Scale__name_at_2 {a0 a1 : W} : f_Scale__name_at.bind [] [a0, a1] [] = some [a0, a1] := by kernel_rfl
@[simp] theorem fn_Scale__at_name : D.G.fn "Scale.at_name" = some f_Scale__at_name := by kernel_rfl
@[simp] theorem ps_Scale__at_name : f_Scale__at_name.ps.length = 2 := rfl
@[simp] theorem nv_Scale__at_name : f_Scale__at_name.nv = 3 := rfl
theorem bo_Scale__at_name : f_Scale__at_name.body = t_Scale__at_name := rfl
@[simp] theorem bd_Scale__at_name_2 {a0 a1 : W} : f_Scale__at_name.bind [] [a0, a1] [] = some [a0, a1] := by kernel_rfl
@[simp] theorem fn_Scale__times_at : D.G.fn "Scale.times_at" = some f_Scale__times_at := by kernel_rfl
@[simp] theorem ps_Scale__times_at : f_Scale__times_at.ps.length = 2 := rfl
@[simp] theorem nv_Scale__times_at : f_Scale__times_at.nv = 5 := rfl
theorem bo_Scale__times_at : f_Scale__times_at.body = t_Scale__times_at := rfl
@[simp] theorem bd_Scale__times_at_2 {a0 a1 : W} : f_Scale__times_at.bind [] [a0, a1] [] = some [a0, a1] := by kernel_rfl
@[simp] theorem fn_Tally____init__ : D.G.fn "Tally.__init__" = some f_Tally____init__ := by kernel_rfl
@[simp] theorem ps_Tally____init__ : f_Tally____init__.ps.length = 2 := rfl
@[simp] theorem nv_Tally____init__ : f_Tally____init__.nv = 3 := rfl
theorem bo_Tally____init__ : f_Tally____init__.body = t_Tally____init__ := rfl
@[simp] theorem bd_Tally____init___2 {a0 a1 : W} : f_Tally____init__.bind [] [a0, a1] [] = some [a0, a1] := by kernel_rfl
@[simp] theorem fn_Tally__places : D.G.fn "Tally.places" = some f_Tally__places := by kernel_rfl
@[simp] theorem ps_Tally__places : f_Tally__places.ps.length = 1 := rfl
@[simp] theorem nv_Tally__places : f_Tally__places.nv = 1 := rfl
theorem bo_Tally__places : f_Tally__places.body = t_Tally__places := rfl
@[simp] theorem bd_Tally__places_1 {a0 : W} : f_Tally__places.bind [] [a0] [] = some [a0] := by kernel_rfl
@[simp] theorem fn_Tally__sum_at : D.G.fn "Tally.sum_at" = some f_Tally__sum_at := by kernel_rfl
@[simp] theorem ps_Tally__sum_at : f_Tally__sum_at.ps.length = 3 := rfl
@[simp] theorem nv_Tally__sum_at : f_Tally__sum_at.nv = 3 := rfl
theorem bo_Tally__sum_at : f_Tally__sum_at.body = t_Tally__sum_at := rfl
@[simp] theorem bd_Tally__sum_at_3 {a0 a1 a2 : W} : f_Tally__sum_at.bind [] [a0, a1, a2] [] = some [a0, a1, a2] := by kernel_rfl
@[simp] theorem fn_Tally__product_at : D.G.fn "Tally.product_at" = some f_Tally__product_at := by kernel_rfl
@[simp] theorem ps_Tally__product_at : f_Tally__product_at.ps.length = 3 := rfl
@[simp] theorem nv_Tally__product_at : f_Tally__product_at.nv = 3 := rfl
theorem bo_Tally__product_at : f_Tally__product_at.body = t_Tally__product_at := rfl
@[simp] theorem bd_Tally__product_at_3 {a0 a1 a2 : W} : f_Tally__product_at.bind [] [a0, a1, a2] [] = some [a0, a1, a2] := by kernel_rfl
@[simp] theorem fn_Tally__name_at : D.G.fn "Tally.name_at" = some f_Tally__name_at := by kernel_rfl
@[simp] theorem ps_Tally__name_at : f_Tally__name_at.ps.length = 2 := rfl
@[simp] theorem nv_Tally__name_at : f_Tally__name_at.nv = 2 := rfl
theorem bo_Tally__name_at : f_Tally__name_at.body = t_Tally__name_at := rfl
@[simp] theorem bd_Tally__name_at_2 {a0 a1 : W} : f_Tally__name_at.bind [] [a0, a1] [] = some [a0, a1] := by kernel_rfl
@[simp] theorem fn_Tally__at_name : D.G.fn "Tally.at_name" = some f_Tally__at_name := by kernel_rfl
@[simp] theorem ps_Tally__at_name : f_Tally__at_name.ps.length = 2 := rfl
@[simp] theorem nv_Tally__at_name : f_Tally__at_name.nv = 3 := rfl
theorem bo_Tally__at_name : f_Tally__at_name.body = t_Tally__at_name := rfl
@[simp] theorem bd_Tally__at_name_2 {a0 a1 : W} : f_Tally__at_name.bind [] [a0, a1] [] = some [a0, a1] := by kernel_rfl
@[simp] theorem fn_Tally__times_at : D.G.fn "Tally.times_at" = some f_Tally__times_at := by kernel_rfl
@[simp] theorem ps_Tally__times_at : f_Tally__times_at.ps.length = 2 := rfl
@[simp] theorem nv_Tally__times_at : f_Tally__times_at.nv = 2 := rfl
theorem bo_Tally__times_at : f_Tally__times_at.body = t_Tally__times_at := rfl
@[simp] theorem bd_Tally__times_at_2 {a0 a1 : W} : f_Tally__times_at.bind [] [a0, a1] [] = some [a0, a1] := by kernel_rfl
@[simp] theorem fn_SameOrder__within_at : D.G.fn "SameOrder.within_at" = some f_SameOrder__within_at := by kernel_rfl
@[simp] theorem ps_SameOrder__within_at : f_SameOrder__within_at.ps.length = 3 := rfl
@[simp] theorem nv_SameOrder__within_at : f_SameOrder__within_at.nv = 3 := rfl
theorem bo_SameOrder__within_at : f_SameOrder__within_at.body = t_SameOrder__within_at := rfl
@[simp] theorem bd_SameOrder__within_at_3 {a0 a1 a2 : W} : f_SameOrder__within_at.bind [] [a0, a1, a2] [] = some [a0, a1, a2] := by kernel_rfl
@[simp] theorem fn_SameOrder__bound_at : D.G.fn "SameOrder.bound_at" = some f_SameOrder__bound_at := by kernel_rfl
@[simp] theorem ps_SameOrder__bound_at : f_SameOrder__bound_at.ps.length = 3 := rfl
@[simp] theorem nv_SameOrder__bound_at : f_SameOrder__bound_at.nv = 3 := rfl
theorem bo_SameOrder__bound_at : f_SameOrder__bound_at.body = t_SameOrder__bound_at := rfl
@[simp] theorem bd_SameOrder__bound_at_3 {a0 a1 a2 : W} : f_SameOrder__bound_at.bind [] [a0, a1, a2] [] = some [a0, a1, a2] := by kernel_rfl
@[simp] theorem fn_UpOrder__within_at : D.G.fn "UpOrder.within_at" = some f_UpOrder__within_at := by kernel_rfl
@[simp] theorem ps_UpOrder__within_at : f_UpOrder__within_at.ps.length = 3 := rfl
@[simp] theorem nv_UpOrder__within_at : f_UpOrder__within_at.nv = 3 := rfl
theorem bo_UpOrder__within_at : f_UpOrder__within_at.body = t_UpOrder__within_at := rfl
@[simp] theorem bd_UpOrder__within_at_3 {a0 a1 a2 : W} : f_UpOrder__within_at.bind [] [a0, a1, a2] [] = some [a0, a1, a2] := by kernel_rfl
@[simp] theorem fn_UpOrder__bound_at : D.G.fn "UpOrder.bound_at" = some f_UpOrder__bound_at := by kernel_rfl
@[simp] theorem ps_UpOrder__bound_at : f_UpOrder__bound_at.ps.length = 3 := rfl
@[simp] theorem nv_UpOrder__bound_at : f_UpOrder__bound_at.nv = 3 := rfl
theorem bo_UpOrder__bound_at : f_UpOrder__bound_at.body = t_UpOrder__bound_at := rfl
@[simp] theorem bd_UpOrder__bound_at_3 {a0 a1 a2 : W} : f_UpOrder__bound_at.bind [] [a0, a1, a2] [] = some [a0, a1, a2] := by kernel_rfl
@[simp] theorem fn_DownOrder__within_at : D.G.fn "DownOrder.within_at" = some f_DownOrder__within_at := by kernel_rfl
@[simp] theorem ps_DownOrder__within_at : f_DownOrder__within_at.ps.length = 3 := rfl
@[simp] theorem nv_DownOrder__within_at : f_DownOrder__within_at.nv = 3 := rfl
theorem bo_DownOrder__within_at : f_DownOrder__within_at.body = t_DownOrder__within_at := rfl
@[simp] theorem bd_DownOrder__within_at_3 {a0 a1 a2 : W} : f_DownOrder__within_at.bind [] [a0, a1, a2] [] = some [a0, a1, a2] := by kernel_rfl
@[simp] theorem fn_DownOrder__bound_at : D.G.fn "DownOrder.bound_at" = some f_DownOrder__bound_at := by kernel_rfl
@[simp] theorem ps_DownOrder__bound_at : f_DownOrder__bound_at.ps.length = 3 := rfl
@[simp] theorem nv_DownOrder__bound_at : f_DownOrder__bound_at.nv = 3 := rfl
theorem bo_DownOrder__bound_at : f_DownOrder__bound_at.body = t_DownOrder__bound_at := rfl
@[simp] theorem bd_DownOrder__bound_at_3 {a0 a1 a2 : W} : f_DownOrder__bound_at.bind [] [a0, a1, a2] [] = some [a0, a1, a2] := by kernel_rfl
@[simp] theorem fn_ExactTally____init__ : D.G.fn "ExactTally.__init__" = some f_ExactTally____init__ := by kernel_rfl
@[simp] theorem ps_ExactTally____init__ : f_ExactTally____init__.ps.length = 1 := rfl
@[simp] theorem nv_ExactTally____init__ : f_ExactTally____init__.nv = 2 := rfl
theorem bo_ExactTally____init__ : f_ExactTally____init__.body = t_ExactTally____init__ := rfl
@[simp] theorem bd_ExactTally____init___1 {a0 : W} : f_ExactTally____init__.bind [] [a0] [] = some [a0] := by kernel_rfl
@[simp] theorem fn_MostTally____init__ : D.G.fn "MostTally.__init__" = some f_MostTally____init__ := by kernel_rfl
@[simp] theorem ps_MostTally____init__ : f_MostTally____init__.ps.length = 1 := rfl
@[simp] theorem nv_MostTally____init__ : f_MostTally____init__.nv = 2 := rfl
theorem bo_MostTally____init__ : f_MostTally____init__.body = t_MostTally____init__ := rfl
@[simp] theorem bd_MostTally____init___1 {a0 : W} : f_MostTally____init__.bind [] [a0] [] = some [a0] := by kernel_rfl
@[simp] theorem fn_LeastTally____init__ : D.G.fn "LeastTally.__init__" = some f_LeastTally____init__ := by kernel_rfl
@[simp] theorem ps_LeastTally____init__ : f_LeastTally____init__.ps.length = 1 := rfl
@[simp] theorem nv_LeastTally____init__ : f_LeastTally____init__.nv = 2 := rfl
theorem bo_LeastTally____init__ : f_LeastTally____init__.body = t_LeastTally____init__ := rfl
@[simp] theorem bd_LeastTally____init___1 {a0 : W} : f_LeastTally____init__.bind [] [a0] [] = some [a0] := by kernel_rfl
@[simp] theorem fn_UnknownGrade____init__ : D.G.fn "UnknownGrade.__init__" = some f_UnknownGrade____init__ := by kernel_rfl
@[simp] theorem ps_UnknownGrade____init__ : f_UnknownGrade____init__.ps.length = 2 := rfl
@[simp] theorem nv_UnknownGrade____init__ : f_UnknownGrade____init__.nv = 3 := rfl
theorem bo_UnknownGrade____init__ : f_UnknownGrade____init__.body = t_UnknownGrade____init__ := rfl
@[simp] theorem bd_UnknownGrade____init___2 {a0 a1 : W} : f_UnknownGrade____init__.bind [] [a0, a1] [] = some [a0, a1] := by kernel_rfl
@[simp] theorem fn__law_draws : D.G.fn "_law_draws" = some f__law_draws := by kernel_rfl
@[simp] theorem ps__law_draws : f__law_draws.ps.length = 1 := rfl
@[simp] theorem nv__law_draws : f__law_draws.nv = 3 := rfl
theorem bo__law_draws : f__law_draws.body = t__law_draws := rfl
@[simp] theorem bd__law_draws_1 {a0 : W} : f__law_draws.bind [] [a0] [] = some [a0] := by kernel_rfl
@[simp] theorem fn__law_draw : D.G.fn "_law_draw" = some f__law_draw := by kernel_rfl
@[simp] theorem ps__law_draw : f__law_draw.ps.length = 2 := rfl
@[simp] theorem nv__law_draw : f__law_draw.nv = 5 := rfl
theorem bo__law_draw : f__law_draw.body = t__law_draw := rfl
@[simp] theorem bd__law_draw_2 {a0 a1 : W} : f__law_draw.bind [] [a0, a1] [] = some [a0, a1] := by kernel_rfl
@[simp] theorem fn__law_same : D.G.fn "_law_same" = some f__law_same := by kernel_rfl
@[simp] theorem ps__law_same : f__law_same.ps.length = 2 := rfl
@[simp] theorem nv__law_same : f__law_same.nv = 3 := rfl
theorem bo__law_same : f__law_same.body = t__law_same := rfl
@[simp] theorem bd__law_same_2 {a0 a1 : W} : f__law_same.bind [] [a0, a1] [] = some [a0, a1] := by kernel_rfl
@[simp] theorem fn__law_number : D.G.fn "_law_number" = some f__law_number := by kernel_rfl
@[simp] theorem ps__law_number : f__law_number.ps.length = 1 := rfl
@[simp] theorem nv__law_number : f__law_number.nv = 4 := rfl
theorem bo__law_number : f__law_number.body = t__law_number := rfl
@[simp] theorem bd__law_number_1 {a0 : W} : f__law_number.bind [] [a0] [] = some [a0] := by kernel_rfl
@[simp] theorem fn__law_within : D.G.fn "_law_within" = some f__law_within := by kernel_rfl
@[simp] theorem ps__law_within : f__law_within.ps.length = 3 := rfl
@[simp] theorem nv__law_within : f__law_within.nv = 3 := rfl
theorem bo__law_within : f__law_within.body = t__law_within := rfl
@[simp] theorem bd__law_within_3 {a0 a1 a2 : W} : f__law_within.bind [] [a0, a1, a2] [] = some [a0, a1, a2] := by kernel_rfl
@[simp] theorem fn__law_bound : D.G.fn "_law_bound" = some f__law_bound := by kernel_rfl
@[simp] theorem ps__law_bound : f__law_bound.ps.length = 3 := rfl
@[simp] theorem nv__law_bound : f__law_bound.nv = 3 := rfl
theorem bo__law_bound : f__law_bound.body = t__law_bound := rfl
@[simp] theorem bd__law_bound_3 {a0 a1 a2 : W} : f__law_bound.bind [] [a0, a1, a2] [] = some [a0, a1, a2] := by kernel_rfl
@[simp] theorem fn__law_endless : D.G.fn "_law_endless" = some f__law_endless := by kernel_rfl
@[simp] theorem ps__law_endless : f__law_endless.ps.length = 1 := rfl
@[simp] theorem nv__law_endless : f__law_endless.nv = 3 := rfl
theorem bo__law_endless : f__law_endless.body = t__law_endless := rfl
@[simp] theorem bd__law_endless_1 {a0 : W} : f__law_endless.bind [] [a0] [] = some [a0] := by kernel_rfl
@[simp] theorem fn__law_unknown : D.G.fn "_law_unknown" = some f__law_unknown := by kernel_rfl
@[simp] theorem ps__law_unknown : f__law_unknown.ps.length = 2 := rfl
@[simp] theorem nv__law_unknown : f__law_unknown.nv = 4 := rfl
theorem bo__law_unknown : f__law_unknown.body = t__law_unknown := rfl
@[simp] theorem bd__law_unknown_2 {a0 a1 : W} : f__law_unknown.bind [] [a0, a1] [] = some [a0, a1] := by kernel_rfl
@[simp] theorem fn__law_far_right : D.G.fn "_law_far_right" = some f__law_far_right := by kernel_rfl
@[simp] theorem ps__law_far_right : f__law_far_right.ps.length = 2 := rfl
@[simp] theorem nv__law_far_right : f__law_far_right.nv = 4 := rfl
theorem bo__law_far_right : f__law_far_right.body = t__law_far_right := rfl
@[simp] theorem bd__law_far_right_2 {a0 a1 : W} : f__law_far_right.bind [] [a0, a1] [] = some [a0, a1] := by kernel_rfl
@[simp] theorem fn_law : D.G.fn "law" = some f_law := by kernel_rfl
@[simp] theorem ps_law : f_law.ps.length = 1 := rfl
@[simp] theorem nv_law : f_law.nv = 13 := rfl
theorem bo_law : f_law.body = t_law := rfl
@[simp] theorem bd_law_1 {a0 : W} : f_law.bind [] [a0] [] = some [a0] := by kernel_rfl
@[simp] theorem con_MOST_FIGURES : D.G.con "MOST_FIGURES" = some (.int 4300) := by kernel_rfl
@[simp] theorem con_FIGURES : D.G.con "FIGURES" = some (.str "0123456789") := by kernel_rfl
@[simp] theorem cl_ExactTally : D.G.cl "ExactTally" = some c_ExactTally := by kernel_rfl
@[simp] theorem ini_ExactTally : c_ExactTally.init = "ExactTally.__init__" := rfl
@[simp] theorem me_ExactTally_within_at : c_ExactTally.meth.lookup ("within_at" : Str) = some "SameOrder.within_at" := by kernel_rfl
@[simp] theorem me_ExactTally_bound_at : c_ExactTally.meth.lookup ("bound_at" : Str) = some "SameOrder.bound_at" := by kernel_rfl
@[simp] theorem me_ExactTally_places : c_ExactTally.meth.lookup ("places" : Str) = some "Tally.places" := by kernel_rfl
@[simp] theorem me_ExactTally_sum_at : c_ExactTally.meth.lookup ("sum_at" : Str) = some "Tally.sum_at" := by kernel_rfl
@[simp] theorem me_ExactTally_product_at : c_ExactTally.meth.lookup ("product_at" : Str) = some "Tally.product_at" := by kernel_rfl
@[simp] theorem me_ExactTally_name_at : c_ExactTally.meth.lookup ("name_at" : Str) = some "Tally.name_at" := by kernel_rfl
@[simp] theorem me_ExactTally_at_name : c_ExactTally.meth.lookup ("at_name" : Str) = some "Tally.at_name" := by kernel_rfl
@[simp] theorem me_ExactTally_times_at : c_ExactTally.meth.lookup ("times_at" : Str) = some "Tally.times_at" := by kernel_rfl
@[simp] theorem fl_ExactTally_size : (("size" : Str) ∈ c_ExactTally.flds) = True := eq_true (by decide +kernel)
@[simp] theorem fl_ExactTally_zero_at : (("zero_at" : Str) ∈ c_ExactTally.flds) = True := eq_true (by decide +kernel)
@[simp] theorem fl_ExactTally_one_at : (("one_at" : Str) ∈ c_ExactTally.flds) = True := eq_true (by decide +kernel)
@[simp] theorem fl_ExactTally_label : (("label" : Str) ∈ c_ExactTally.flds) = True := eq_true (by decide +kernel)
@[simp] theorem fl_ExactTally_depth : (("depth" : Str) ∈ c_ExactTally.flds) = True := eq_true (by decide +kernel)
@[simp] theorem cl_MostTally : D.G.cl "MostTally" = some c_MostTally := by kernel_rfl
@[simp] theorem ini_MostTally : c_MostTally.init = "MostTally.__init__" := rfl
@[simp] theorem me_MostTally_within_at : c_MostTally.meth.lookup ("within_at" : Str) = some "UpOrder.within_at" := by kernel_rfl
@[simp] theorem me_MostTally_bound_at : c_MostTally.meth.lookup ("bound_at" : Str) = some "UpOrder.bound_at" := by kernel_rfl
@[simp] theorem me_MostTally_places : c_MostTally.meth.lookup ("places" : Str) = some "Tally.places" := by kernel_rfl
@[simp] theorem me_MostTally_sum_at : c_MostTally.meth.lookup ("sum_at" : Str) = some "Tally.sum_at" := by kernel_rfl
@[simp] theorem me_MostTally_product_at : c_MostTally.meth.lookup ("product_at" : Str) = some "Tally.product_at" := by kernel_rfl
@[simp] theorem me_MostTally_name_at : c_MostTally.meth.lookup ("name_at" : Str) = some "Tally.name_at" := by kernel_rfl
@[simp] theorem me_MostTally_at_name : c_MostTally.meth.lookup ("at_name" : Str) = some "Tally.at_name" := by kernel_rfl
@[simp] theorem me_MostTally_times_at : c_MostTally.meth.lookup ("times_at" : Str) = some "Tally.times_at" := by kernel_rfl
@[simp] theorem fl_MostTally_size : (("size" : Str) ∈ c_MostTally.flds) = True := eq_true (by decide +kernel)
@[simp] theorem fl_MostTally_zero_at : (("zero_at" : Str) ∈ c_MostTally.flds) = True := eq_true (by decide +kernel)
@[simp] theorem fl_MostTally_one_at : (("one_at" : Str) ∈ c_MostTally.flds) = True := eq_true (by decide +kernel)
@[simp] theorem fl_MostTally_label : (("label" : Str) ∈ c_MostTally.flds) = True := eq_true (by decide +kernel)
@[simp] theorem fl_MostTally_depth : (("depth" : Str) ∈ c_MostTally.flds) = True := eq_true (by decide +kernel)
@[simp] theorem cl_LeastTally : D.G.cl "LeastTally" = some c_LeastTally := by kernel_rfl
@[simp] theorem ini_LeastTally : c_LeastTally.init = "LeastTally.__init__" := rfl
@[simp] theorem me_LeastTally_within_at : c_LeastTally.meth.lookup ("within_at" : Str) = some "DownOrder.within_at" := by kernel_rfl
@[simp] theorem me_LeastTally_bound_at : c_LeastTally.meth.lookup ("bound_at" : Str) = some "DownOrder.bound_at" := by kernel_rfl
@[simp] theorem me_LeastTally_places : c_LeastTally.meth.lookup ("places" : Str) = some "Tally.places" := by kernel_rfl
@[simp] theorem me_LeastTally_sum_at : c_LeastTally.meth.lookup ("sum_at" : Str) = some "Tally.sum_at" := by kernel_rfl
@[simp] theorem me_LeastTally_product_at : c_LeastTally.meth.lookup ("product_at" : Str) = some "Tally.product_at" := by kernel_rfl
@[simp] theorem me_LeastTally_name_at : c_LeastTally.meth.lookup ("name_at" : Str) = some "Tally.name_at" := by kernel_rfl
@[simp] theorem me_LeastTally_at_name : c_LeastTally.meth.lookup ("at_name" : Str) = some "Tally.at_name" := by kernel_rfl
@[simp] theorem me_LeastTally_times_at : c_LeastTally.meth.lookup ("times_at" : Str) = some "Tally.times_at" := by kernel_rfl
@[simp] theorem fl_LeastTally_size : (("size" : Str) ∈ c_LeastTally.flds) = True := eq_true (by decide +kernel)
@[simp] theorem fl_LeastTally_zero_at : (("zero_at" : Str) ∈ c_LeastTally.flds) = True := eq_true (by decide +kernel)
@[simp] theorem fl_LeastTally_one_at : (("one_at" : Str) ∈ c_LeastTally.flds) = True := eq_true (by decide +kernel)
@[simp] theorem fl_LeastTally_label : (("label" : Str) ∈ c_LeastTally.flds) = True := eq_true (by decide +kernel)
@[simp] theorem fl_LeastTally_depth : (("depth" : Str) ∈ c_LeastTally.flds) = True := eq_true (by decide +kernel)
@[simp] theorem exn_UsescaleError : D.G.exn "UsescaleError" = some x_UsescaleError := by kernel_rfl
@[simp] theorem xin_UsescaleError : x_UsescaleError.init = none := rfl
@[simp] theorem xar_UsescaleError : x_UsescaleError.ar = 0 := rfl
@[simp] theorem xfl_UsescaleError : x_UsescaleError.fl = ([] : List (Str × Nat)) := rfl
@[simp] theorem exn_EndlessScale : D.G.exn "EndlessScale" = some x_EndlessScale := by kernel_rfl
@[simp] theorem xin_EndlessScale : x_EndlessScale.init = none := rfl
@[simp] theorem xar_EndlessScale : x_EndlessScale.ar = 0 := rfl
@[simp] theorem xfl_EndlessScale : x_EndlessScale.fl = ([] : List (Str × Nat)) := rfl
@[simp] theorem exn_NameMissing : D.G.exn "NameMissing" = some x_NameMissing := by kernel_rfl
@[simp] theorem xin_NameMissing : x_NameMissing.init = none := rfl
@[simp] theorem xar_NameMissing : x_NameMissing.ar = 0 := rfl
@[simp] theorem xfl_NameMissing : x_NameMissing.fl = ([] : List (Str × Nat)) := rfl
@[simp] theorem exn_UnknownGrade : D.G.exn "UnknownGrade" = some x_UnknownGrade := by kernel_rfl
@[simp] theorem xin_UnknownGrade : x_UnknownGrade.init = some "UnknownGrade.__init__" := rfl
@[simp] theorem xar_UnknownGrade : x_UnknownGrade.ar = 1 := rfl
@[simp] theorem xfl_UnknownGrade : x_UnknownGrade.fl = ([("name", 0)] : List (Str × Nat)) := rfl
@[simp] theorem exm_0 : D.G.exm (.own "UsescaleError") (.own "EndlessScale") = some false := by kernel_rfl
@[simp] theorem exm_1 : D.G.exm (.own "UsescaleError") (.own "UnknownGrade") = some false := by kernel_rfl
@[simp] theorem exm_2 : D.G.exm (.own "EndlessScale") (.own "EndlessScale") = some true := by kernel_rfl
@[simp] theorem exm_3 : D.G.exm (.own "EndlessScale") (.own "UnknownGrade") = some false := by kernel_rfl
@[simp] theorem exm_4 : D.G.exm (.own "NameMissing") (.own "EndlessScale") = some false := by kernel_rfl
@[simp] theorem exm_5 : D.G.exm (.own "NameMissing") (.own "UnknownGrade") = some false := by kernel_rfl
@[simp] theorem exm_6 : D.G.exm (.own "UnknownGrade") (.own "EndlessScale") = some false := by kernel_rfl
@[simp] theorem exm_7 : D.G.exm (.own "UnknownGrade") (.own "UnknownGrade") = some true := by kernel_rfl
@[simp] theorem su_ExactTally_ExactTally : D.G.sup "ExactTally" "ExactTally" "__init__" = some "Tally.__init__" := by kernel_rfl
@[simp] theorem su_ExactTally_Tally : D.G.sup "ExactTally" "Tally" "__init__" = some "Scale.__init__" := by kernel_rfl
@[simp] theorem su_MostTally_MostTally : D.G.sup "MostTally" "MostTally" "__init__" = some "Tally.__init__" := by kernel_rfl
@[simp] theorem su_MostTally_Tally : D.G.sup "MostTally" "Tally" "__init__" = some "Scale.__init__" := by kernel_rfl
@[simp] theorem su_LeastTally_LeastTally : D.G.sup "LeastTally" "LeastTally" "__init__" = some "Tally.__init__" := by kernel_rfl
@[simp] theorem su_LeastTally_Tally : D.G.sup "LeastTally" "Tally" "__init__" = some "Scale.__init__" := by kernel_rfl
@[simp] theorem is_0 : D.G.isa "ExactTally" (.blt "bool") = some false := by kernel_rfl
@[simp] theorem is_1 : D.G.isa "ExactTally" (.blt "int") = some false := by kernel_rfl
@[simp] theorem is_2 : D.G.isa "ExactTally" (.blt "list") = some false := by kernel_rfl
@[simp] theorem is_3 : D.G.isa "ExactTally" (.blt "str") = some false := by kernel_rfl
@[simp] theorem is_4 : D.G.isa "ExactTally" (.blt "tuple") = some false := by kernel_rfl
@[simp] theorem is_5 : D.G.isa "MostTally" (.blt "bool") = some false := by kernel_rfl
@[simp] theorem is_6 : D.G.isa "MostTally" (.blt "int") = some false := by kernel_rfl
@[simp] theorem is_7 : D.G.isa "MostTally" (.blt "list") = some false := by kernel_rfl
@[simp] theorem is_8 : D.G.isa "MostTally" (.blt "str") = some false := by kernel_rfl
@[simp] theorem is_9 : D.G.isa "MostTally" (.blt "tuple") = some false := by kernel_rfl
@[simp] theorem is_10 : D.G.isa "LeastTally" (.blt "bool") = some false := by kernel_rfl
@[simp] theorem is_11 : D.G.isa "LeastTally" (.blt "int") = some false := by kernel_rfl
@[simp] theorem is_12 : D.G.isa "LeastTally" (.blt "list") = some false := by kernel_rfl
@[simp] theorem is_13 : D.G.isa "LeastTally" (.blt "str") = some false := by kernel_rfl
@[simp] theorem is_14 : D.G.isa "LeastTally" (.blt "tuple") = some false := by kernel_rfl
@[simp] theorem is_15 : D.G.isa "UsescaleError" (.own "UsescaleError") = some true := by kernel_rfl
@[simp] theorem is_16 : D.G.isa "UsescaleError" (.blt "ValueError") = some true := by kernel_rfl
@[simp] theorem is_17 : D.G.isa "EndlessScale" (.own "UsescaleError") = some true := by kernel_rfl
@[simp] theorem is_18 : D.G.isa "EndlessScale" (.blt "ValueError") = some true := by kernel_rfl
@[simp] theorem is_19 : D.G.isa "NameMissing" (.own "UsescaleError") = some false := by kernel_rfl
@[simp] theorem is_20 : D.G.isa "NameMissing" (.blt "ValueError") = some false := by kernel_rfl
@[simp] theorem is_21 : D.G.isa "UnknownGrade" (.own "UsescaleError") = some false := by kernel_rfl
@[simp] theorem is_22 : D.G.isa "UnknownGrade" (.blt "ValueError") = some false := by kernel_rfl
theorem st_Scale____init__ : StatD PySem.Challenge.pw_usescale_k05_tallies D u_Scale____init__ f_Scale____init__ := .inl ⟨rfl, by decide +kernel, fnsc_by (by decide +kernel), rfl, by kernel_rfl⟩
theorem sh_Scale____init__ : ShpD u_Scale____init__ f_Scale____init__ := by
  intro K file f cl dV kV doc pm an cdv ct F Ω hK n ks hm
  simp only [f_Scale____init__, List.mem_cons, List.not_mem_nil, or_false, Prod.mk.injEq] at hm
  rcases hm with ⟨rfl, rfl⟩
  · exact F.shB hK ["depth"] (by decide) (by decide +kernel) fun cl T kV doc pm an cdv ct us zs its h1 h2 h3 => match us, zs, its, h1, h2, h3 with | [_, _, _, _, _], [], [_], _, _, _ => ⟨_, rfl, _, rfl, rfl⟩
theorem st_Scale__places : StatD PySem.Challenge.pw_usescale_k05_tallies D u_Scale__places f_Scale__places := .inl ⟨rfl, by decide +kernel, fnsc_by (by decide +kernel), rfl, by kernel_rfl⟩
theorem sh_Scale__places : ShpD u_Scale__places f_Scale__places := by
  intro K file f cl dV kV doc pm an cdv ct F Ω hK n ks hm
  simp only [f_Scale__places, List.mem_cons, List.not_mem_nil, or_false, Prod.mk.injEq] at hm
  rcases hm with ⟨rfl, rfl⟩
  · exact F.shA hK rfl rfl fun cl kV doc pm an cdv ct us zs h1 h2 => match us, zs, h1, h2 with | [_], [], _, _ => ⟨_, rfl, rfl⟩
theorem st_Scale__sum_at : StatD PySem.Challenge.pw_usescale_k05_tallies D u_Scale__sum_at f_Scale__sum_at := .inl ⟨rfl, by decide +kernel, fnsc_by (by decide +kernel), rfl, by kernel_rfl⟩
theorem sh_Scale__sum_at : ShpD u_Scale__sum_at f_Scale__sum_at := by
  intro K file f cl dV kV doc pm an cdv ct F Ω hK n ks hm
  simp only [f_Scale__sum_at, List.mem_cons, List.not_mem_nil, or_false, Prod.mk.injEq] at hm
  rcases hm with ⟨rfl, rfl⟩
  · exact F.shA hK rfl rfl fun cl kV doc pm an cdv ct us zs h1 h2 => match us, zs, h1, h2 with | [_, _, _], [], _, _ => ⟨_, rfl, rfl⟩
theorem st_Scale__product_at : StatD PySem.Challenge.pw_usescale_k05_tallies D u_Scale__product_at f_Scale__product_at := .inl ⟨rfl, by decide +kernel, fnsc_by (by decide +kernel), rfl, by kernel_rfl⟩
theorem sh_Scale__product_at : ShpD u_Scale__product_at f_Scale__product_at := by
  intro K file f cl dV kV doc pm an cdv ct F Ω hK n ks hm
  simp only [f_Scale__product_at, List.mem_cons, List.not_mem_nil, or_false, Prod.mk.injEq] at hm
  rcases hm with ⟨rfl, rfl⟩
  · exact F.shA hK rfl rfl fun cl kV doc pm an cdv ct us zs h1 h2 => match us, zs, h1, h2 with | [_, _, _], [], _, _ => ⟨_, rfl, rfl⟩
theorem st_Scale__within_at : StatD PySem.Challenge.pw_usescale_k05_tallies D u_Scale__within_at f_Scale__within_at := .inl ⟨rfl, by decide +kernel, fnsc_by (by decide +kernel), rfl, by kernel_rfl⟩
theorem sh_Scale__within_at : ShpD u_Scale__within_at f_Scale__within_at := by
  intro K file f cl dV kV doc pm an cdv ct F Ω hK n ks hm
  simp only [f_Scale__within_at, List.mem_cons, List.not_mem_nil, or_false, Prod.mk.injEq] at hm
  rcases hm with ⟨rfl, rfl⟩
  · exact F.shA hK rfl rfl fun cl kV doc pm an cdv ct us zs h1 h2 => match us, zs, h1, h2 with | [_, _, _], [], _, _ => ⟨_, rfl, rfl⟩
theorem st_Scale__bound_at : StatD PySem.Challenge.pw_usescale_k05_tallies D u_Scale__bound_at f_Scale__bound_at := .inl ⟨rfl, by decide +kernel, fnsc_by (by decide +kernel), rfl, by kernel_rfl⟩
theorem sh_Scale__bound_at : ShpD u_Scale__bound_at f_Scale__bound_at := by
  intro K file f cl dV kV doc pm an cdv ct F Ω hK n ks hm
  simp only [f_Scale__bound_at, List.mem_cons, List.not_mem_nil, or_false, Prod.mk.injEq] at hm
  rcases hm with ⟨rfl, rfl⟩
  · exact F.shA hK rfl rfl fun cl kV doc pm an cdv ct us zs h1 h2 => match us, zs, h1, h2 with | [_, _, _], [], _, _ => ⟨_, rfl, rfl⟩
theorem st_Scale__name_at : StatD PySem.Challenge.pw_usescale_k05_tallies D u_Scale__name_at f_Scale__name_at := .inl ⟨rfl, by decide +kernel, fnsc_by (by decide +kernel), rfl, by kernel_rfl⟩
theorem sh_Scale__name_at : ShpD u_Scale__name_at f_Scale__name_at := by
  intro K file f cl dV kV doc pm an cdv ct F Ω hK n ks hm
  simp only [f_Scale__name_at, List.mem_cons, List.not_mem_nil, or_false, Prod.mk.injEq] at hm
  rcases hm with ⟨rfl, rfl⟩
  · exact F.shA hK rfl rfl fun cl kV doc pm an cdv ct us zs h1 h2 => match us, zs, h1, h2 with | [_, _], [], _, _ => ⟨_, rfl, rfl⟩
theorem st_Scale__at_name : StatD PySem.Challenge.pw_usescale_k05_tallies D u_Scale__at_name f_Scale__at_name := .inl ⟨rfl, by decide +kernel, fnsc_by (by decide +kernel), rfl, by kernel_rfl⟩
theorem sh_Scale__at_name : ShpD u_Scale__at_name f_Scale__at_name := by
  intro K file f cl dV kV doc pm an cdv ct F Ω hK n ks hm
  simp only [f_Scale__at_name, List.mem_cons, List.not_mem_nil, or_false, Prod.mk.injEq] at hm
  rcases hm with ⟨rfl, rfl⟩
  · exact F.shA hK rfl rfl fun cl kV doc pm an cdv ct us zs h1 h2 => match us, zs, h1, h2 with | [_, _], [], _, _ => ⟨_, rfl, rfl⟩
theorem st_Scale__times_at : StatD PySem.Challenge.pw_usescale_k05_tallies D u_Scale__times_at f_Scale__times_at := .inl ⟨rfl, by decide +kernel, fnsc_by (by decide +kernel), rfl, by kernel_rfl⟩
theorem sh_Scale__times_at : ShpD u_Scale__times_at f_Scale__times_at := by
  intro K file f cl dV kV doc pm an cdv ct F Ω hK n ks hm
  simp only [f_Scale__times_at, List.mem_cons, List.not_mem_nil, or_false, Prod.mk.injEq] at hm
  rcases hm with ⟨rfl, rfl⟩
  · exact F.shA hK rfl rfl fun cl kV doc pm an cdv ct us zs h1 h2 => match us, zs, h1, h2 with | [_, _], [], _, _ => ⟨_, rfl, rfl⟩
theorem sT_Tally____init__ : SupT PySem.Challenge.pw_usescale_k05_tallies D u_Tally____init__ f_Tally____init__ "Tally" ((defArgs (cst 11 0)).args.headD default) := ⟨rfl, by decide +kernel, cscope_by (by decide +kernel), rfl, by kernel_rfl, by kernel_rfl, by kernel_rfl, by decide +kernel, by decide +kernel, by decide +kernel, by decide +kernel, by decide +kernel⟩
theorem st_Tally____init__ : StatD PySem.Challenge.pw_usescale_k05_tallies D u_Tally____init__ f_Tally____init__ := .inr ⟨_, _, sT_Tally____init__⟩
theorem sh_Tally____init__ : ShpD u_Tally____init__ f_Tally____init__ := by
  intro K file f cl dV kV doc pm an cdv ct F Ω hK n ks hm
  simp only [f_Tally____init__, List.mem_cons, List.not_mem_nil, or_false, Prod.mk.injEq] at hm
  rcases hm with ⟨rfl, rfl⟩
  · exact F.shA hK rfl rfl fun cl kV doc pm an cdv ct us zs h1 h2 => match us, zs, h1, h2 with | [_, _], [], _, _ => ⟨_, rfl, rfl⟩
theorem st_Tally__places : StatD PySem.Challenge.pw_usescale_k05_tallies D u_Tally__places f_Tally__places := .inl ⟨rfl, by decide +kernel, fnsc_by (by decide +kernel), rfl, by kernel_rfl⟩
theorem sh_Tally__places : ShpD u_Tally__places f_Tally__places := by
  intro K file f cl dV kV doc pm an cdv ct F Ω hK n ks hm
  simp only [f_Tally__places, List.mem_cons, List.not_mem_nil, or_false, Prod.mk.injEq] at hm
  rcases hm with ⟨rfl, rfl⟩
  · exact F.shA hK rfl rfl fun cl kV doc pm an cdv ct us zs h1 h2 => match us, zs, h1, h2 with | [_], [], _, _ => ⟨_, rfl, rfl⟩
theorem st_Tally__sum_at : StatD PySem.Challenge.pw_usescale_k05_tallies D u_Tally__sum_at f_Tally__sum_at := .inl ⟨rfl, by decide +kernel, fnsc_by (by decide +kernel), rfl, by kernel_rfl⟩
theorem sh_Tally__sum_at : ShpD u_Tally__sum_at f_Tally__sum_at := by
  intro K file f cl dV kV doc pm an cdv ct F Ω hK n ks hm
  simp only [f_Tally__sum_at, List.mem_cons, List.not_mem_nil, or_false, Prod.mk.injEq] at hm
  rcases hm with ⟨rfl, rfl⟩
  · exact F.shA hK rfl rfl fun cl kV doc pm an cdv ct us zs h1 h2 => match us, zs, h1, h2 with | [_, _, _], [], _, _ => ⟨_, rfl, rfl⟩
theorem st_Tally__product_at : StatD PySem.Challenge.pw_usescale_k05_tallies D u_Tally__product_at f_Tally__product_at := .inl ⟨rfl, by decide +kernel, fnsc_by (by decide +kernel), rfl, by kernel_rfl⟩
theorem sh_Tally__product_at : ShpD u_Tally__product_at f_Tally__product_at := by
  intro K file f cl dV kV doc pm an cdv ct F Ω hK n ks hm
  simp only [f_Tally__product_at, List.mem_cons, List.not_mem_nil, or_false, Prod.mk.injEq] at hm
  rcases hm with ⟨rfl, rfl⟩
  · exact F.shA hK rfl rfl fun cl kV doc pm an cdv ct us zs h1 h2 => match us, zs, h1, h2 with | [_, _, _], [], _, _ => ⟨_, rfl, rfl⟩
theorem st_Tally__name_at : StatD PySem.Challenge.pw_usescale_k05_tallies D u_Tally__name_at f_Tally__name_at := .inl ⟨rfl, by decide +kernel, fnsc_by (by decide +kernel), rfl, by kernel_rfl⟩
theorem sh_Tally__name_at : ShpD u_Tally__name_at f_Tally__name_at := by
  intro K file f cl dV kV doc pm an cdv ct F Ω hK n ks hm
  simp only [f_Tally__name_at, List.mem_cons, List.not_mem_nil, or_false, Prod.mk.injEq] at hm
  rcases hm with ⟨rfl, rfl⟩
  · exact F.shA hK rfl rfl fun cl kV doc pm an cdv ct us zs h1 h2 => match us, zs, h1, h2 with | [_, _], [], _, _ => ⟨_, rfl, rfl⟩
theorem st_Tally__at_name : StatD PySem.Challenge.pw_usescale_k05_tallies D u_Tally__at_name f_Tally__at_name := .inl ⟨rfl, by decide +kernel, fnsc_by (by decide +kernel), rfl, by kernel_rfl⟩
theorem sh_Tally__at_name : ShpD u_Tally__at_name f_Tally__at_name := by
  intro K file f cl dV kV doc pm an cdv ct F Ω hK n ks hm
  simp only [f_Tally__at_name, List.mem_cons, List.not_mem_nil, or_false, Prod.mk.injEq] at hm
  rcases hm with ⟨rfl, rfl⟩
  · exact F.shA hK rfl rfl fun cl kV doc pm an cdv ct us zs h1 h2 => match us, zs, h1, h2 with | [_, _], [], _, _ => ⟨_, rfl, rfl⟩
theorem st_Tally__times_at : StatD PySem.Challenge.pw_usescale_k05_tallies D u_Tally__times_at f_Tally__times_at := .inl ⟨rfl, by decide +kernel, fnsc_by (by decide +kernel), rfl, by kernel_rfl⟩
theorem sh_Tally__times_at : ShpD u_Tally__times_at f_Tally__times_at := by
  intro K file f cl dV kV doc pm an cdv ct F Ω hK n ks hm
  simp only [f_Tally__times_at, List.mem_cons, List.not_mem_nil, or_false, Prod.mk.injEq] at hm
  rcases hm with ⟨rfl, rfl⟩
  · exact F.shA hK rfl rfl fun cl kV doc pm an cdv ct us zs h1 h2 => match us, zs, h1, h2 with | [_, _], [], _, _ => ⟨_, rfl, rfl⟩
theorem st_SameOrder__within_at : StatD PySem.Challenge.pw_usescale_k05_tallies D u_SameOrder__within_at f_SameOrder__within_at := .inl ⟨rfl, by decide +kernel, fnsc_by (by decide +kernel), rfl, by kernel_rfl⟩
theorem sh_SameOrder__within_at : ShpD u_SameOrder__within_at f_SameOrder__within_at := by
  intro K file f cl dV kV doc pm an cdv ct F Ω hK n ks hm
  simp only [f_SameOrder__within_at, List.mem_cons, List.not_mem_nil, or_false, Prod.mk.injEq] at hm
  rcases hm with ⟨rfl, rfl⟩
  · exact F.shA hK rfl rfl fun cl kV doc pm an cdv ct us zs h1 h2 => match us, zs, h1, h2 with | [_, _, _], [], _, _ => ⟨_, rfl, rfl⟩
theorem st_SameOrder__bound_at : StatD PySem.Challenge.pw_usescale_k05_tallies D u_SameOrder__bound_at f_SameOrder__bound_at := .inl ⟨rfl, by decide +kernel, fnsc_by (by decide +kernel), rfl, by kernel_rfl⟩
theorem sh_SameOrder__bound_at : ShpD u_SameOrder__bound_at f_SameOrder__bound_at := by
  intro K file f cl dV kV doc pm an cdv ct F Ω hK n ks hm
  simp only [f_SameOrder__bound_at, List.mem_cons, List.not_mem_nil, or_false, Prod.mk.injEq] at hm
  rcases hm with ⟨rfl, rfl⟩
  · exact F.shA hK rfl rfl fun cl kV doc pm an cdv ct us zs h1 h2 => match us, zs, h1, h2 with | [_, _, _], [], _, _ => ⟨_, rfl, rfl⟩
theorem st_UpOrder__within_at : StatD PySem.Challenge.pw_usescale_k05_tallies D u_UpOrder__within_at f_UpOrder__within_at := .inl ⟨rfl, by decide +kernel, fnsc_by (by decide +kernel), rfl, by kernel_rfl⟩
theorem sh_UpOrder__within_at : ShpD u_UpOrder__within_at f_UpOrder__within_at := by
  intro K file f cl dV kV doc pm an cdv ct F Ω hK n ks hm
  simp only [f_UpOrder__within_at, List.mem_cons, List.not_mem_nil, or_false, Prod.mk.injEq] at hm
  rcases hm with ⟨rfl, rfl⟩
  · exact F.shA hK rfl rfl fun cl kV doc pm an cdv ct us zs h1 h2 => match us, zs, h1, h2 with | [_, _, _], [], _, _ => ⟨_, rfl, rfl⟩
theorem st_UpOrder__bound_at : StatD PySem.Challenge.pw_usescale_k05_tallies D u_UpOrder__bound_at f_UpOrder__bound_at := .inl ⟨rfl, by decide +kernel, fnsc_by (by decide +kernel), rfl, by kernel_rfl⟩
theorem sh_UpOrder__bound_at : ShpD u_UpOrder__bound_at f_UpOrder__bound_at := by
  intro K file f cl dV kV doc pm an cdv ct F Ω hK n ks hm
  simp only [f_UpOrder__bound_at, List.mem_cons, List.not_mem_nil, or_false, Prod.mk.injEq] at hm
  rcases hm with ⟨rfl, rfl⟩
  · exact F.shA hK rfl rfl fun cl kV doc pm an cdv ct us zs h1 h2 => match us, zs, h1, h2 with | [_, _, _], [], _, _ => ⟨_, rfl, rfl⟩
theorem st_DownOrder__within_at : StatD PySem.Challenge.pw_usescale_k05_tallies D u_DownOrder__within_at f_DownOrder__within_at := .inl ⟨rfl, by decide +kernel, fnsc_by (by decide +kernel), rfl, by kernel_rfl⟩
theorem sh_DownOrder__within_at : ShpD u_DownOrder__within_at f_DownOrder__within_at := by
  intro K file f cl dV kV doc pm an cdv ct F Ω hK n ks hm
  simp only [f_DownOrder__within_at, List.mem_cons, List.not_mem_nil, or_false, Prod.mk.injEq] at hm
  rcases hm with ⟨rfl, rfl⟩
  · exact F.shA hK rfl rfl fun cl kV doc pm an cdv ct us zs h1 h2 => match us, zs, h1, h2 with | [_, _, _], [], _, _ => ⟨_, rfl, rfl⟩
theorem st_DownOrder__bound_at : StatD PySem.Challenge.pw_usescale_k05_tallies D u_DownOrder__bound_at f_DownOrder__bound_at := .inl ⟨rfl, by decide +kernel, fnsc_by (by decide +kernel), rfl, by kernel_rfl⟩
theorem sh_DownOrder__bound_at : ShpD u_DownOrder__bound_at f_DownOrder__bound_at := by
  intro K file f cl dV kV doc pm an cdv ct F Ω hK n ks hm
  simp only [f_DownOrder__bound_at, List.mem_cons, List.not_mem_nil, or_false, Prod.mk.injEq] at hm
  rcases hm with ⟨rfl, rfl⟩
  · exact F.shA hK rfl rfl fun cl kV doc pm an cdv ct us zs h1 h2 => match us, zs, h1, h2 with | [_, _, _], [], _, _ => ⟨_, rfl, rfl⟩
theorem sT_ExactTally____init__ : SupT PySem.Challenge.pw_usescale_k05_tallies D u_ExactTally____init__ f_ExactTally____init__ "ExactTally" ((defArgs (cst 15 0)).args.headD default) := ⟨rfl, by decide +kernel, cscope_by (by decide +kernel), rfl, by kernel_rfl, by kernel_rfl, by kernel_rfl, by decide +kernel, by decide +kernel, by decide +kernel, by decide +kernel, by decide +kernel⟩
theorem st_ExactTally____init__ : StatD PySem.Challenge.pw_usescale_k05_tallies D u_ExactTally____init__ f_ExactTally____init__ := .inr ⟨_, _, sT_ExactTally____init__⟩
theorem sh_ExactTally____init__ : ShpD u_ExactTally____init__ f_ExactTally____init__ := by
  intro K file f cl dV kV doc pm an cdv ct F Ω hK n ks hm
  simp only [f_ExactTally____init__, List.mem_cons, List.not_mem_nil, or_false, Prod.mk.injEq] at hm
  rcases hm with ⟨rfl, rfl⟩
  · exact F.shA hK rfl rfl fun cl kV doc pm an cdv ct us zs h1 h2 => match us, zs, h1, h2 with | [_], [], _, _ => ⟨_, rfl, rfl⟩
theorem sT_MostTally____init__ : SupT PySem.Challenge.pw_usescale_k05_tallies D u_MostTally____init__ f_MostTally____init__ "MostTally" ((defArgs (cst 16 0)).args.headD default) := ⟨rfl, by decide +kernel, cscope_by (by decide +kernel), rfl, by kernel_rfl, by kernel_rfl, by kernel_rfl, by decide +kernel, by decide +kernel, by decide +kernel, by decide +kernel, by decide +kernel⟩
theorem st_MostTally____init__ : StatD PySem.Challenge.pw_usescale_k05_tallies D u_MostTally____init__ f_MostTally____init__ := .inr ⟨_, _, sT_MostTally____init__⟩
theorem sh_MostTally____init__ : ShpD u_MostTally____init__ f_MostTally____init__ := by
  intro K file f cl dV kV doc pm an cdv ct F Ω hK n ks hm
  simp only [f_MostTally____init__, List.mem_cons, List.not_mem_nil, or_false, Prod.mk.injEq] at hm
  rcases hm with ⟨rfl, rfl⟩
  · exact F.shA hK rfl rfl fun cl kV doc pm an cdv ct us zs h1 h2 => match us, zs, h1, h2 with | [_], [], _, _ => ⟨_, rfl, rfl⟩
theorem sT_LeastTally____init__ : SupT PySem.Challenge.pw_usescale_k05_tallies D u_LeastTally____init__ f_LeastTally____init__ "LeastTally" ((defArgs (cst 17 0)).args.headD default) := ⟨rfl, by decide +kernel, cscope_by (by decide +kernel), rfl, by kernel_rfl, by kernel_rfl, by kernel_rfl, by decide +kernel, by decide +kernel, by decide +kernel, by decide +kernel, by decide +kernel⟩
theorem st_LeastTally____init__ : StatD PySem.Challenge.pw_usescale_k05_tallies D u_LeastTally____init__ f_LeastTally____init__ := .inr ⟨_, _, sT_LeastTally____init__⟩
theorem sh_LeastTally____init__ : ShpD u_LeastTally____init__ f_LeastTally____init__ := by
  intro K file f cl dV kV doc pm an cdv ct F Ω hK n ks hm
  simp only [f_LeastTally____init__, List.mem_cons, List.not_mem_nil, or_false, Prod.mk.injEq] at hm
  rcases hm with ⟨rfl, rfl⟩
  · exact F.shA hK rfl rfl fun cl kV doc pm an cdv ct us zs h1 h2 => match us, zs, h1, h2 with | [_], [], _, _ => ⟨_, rfl, rfl⟩
theorem sT_UnknownGrade____init__ : SupT PySem.Challenge.pw_usescale_k05_tallies D u_UnknownGrade____init__ f_UnknownGrade____init__ "UnknownGrade" ((defArgs (cst 5 0)).args.headD default) := ⟨rfl, by decide +kernel, cscope_by (by decide +kernel), rfl, by kernel_rfl, by kernel_rfl, by kernel_rfl, by decide +kernel, by decide +kernel, by decide +kernel, by decide +kernel, by decide +kernel⟩
theorem st_UnknownGrade____init__ : StatD PySem.Challenge.pw_usescale_k05_tallies D u_UnknownGrade____init__ f_UnknownGrade____init__ := .inr ⟨_, _, sT_UnknownGrade____init__⟩
theorem sh_UnknownGrade____init__ : ShpD u_UnknownGrade____init__ f_UnknownGrade____init__ := by
  intro K file f cl dV kV doc pm an cdv ct F Ω hK n ks hm
  simp only [f_UnknownGrade____init__, List.mem_cons, List.not_mem_nil, or_false, Prod.mk.injEq] at hm
  rcases hm with ⟨rfl, rfl⟩
  · exact F.shA hK rfl rfl fun cl kV doc pm an cdv ct us zs h1 h2 => match us, zs, h1, h2 with | [_, _], [], _, _ => ⟨_, rfl, rfl⟩
theorem st__law_draws : StatD PySem.Challenge.pw_usescale_k05_tallies D u__law_draws f__law_draws := .inl ⟨rfl, by decide +kernel, fnsc_by (by decide +kernel), rfl, by kernel_rfl⟩
theorem sh__law_draws : ShpD u__law_draws f__law_draws := by
  intro K file f cl dV kV doc pm an cdv ct F Ω hK n ks hm
  simp only [f__law_draws, List.mem_cons, List.not_mem_nil, or_false, Prod.mk.injEq] at hm
  rcases hm with ⟨rfl, rfl⟩
  · exact F.shA hK rfl rfl fun cl kV doc pm an cdv ct us zs h1 h2 => match us, zs, h1, h2 with | [_], [], _, _ => ⟨_, rfl, rfl⟩
theorem st__law_draw : StatD PySem.Challenge.pw_usescale_k05_tallies D u__law_draw f__law_draw := .inl ⟨rfl, by decide +kernel, fnsc_by (by decide +kernel), rfl, by kernel_rfl⟩
theorem sh__law_draw : ShpD u__law_draw f__law_draw := by
  intro K file f cl dV kV doc pm an cdv ct F Ω hK n ks hm
  simp only [f__law_draw, List.mem_cons, List.not_mem_nil, or_false, Prod.mk.injEq] at hm
  rcases hm with ⟨rfl, rfl⟩
  · exact F.shA hK rfl rfl fun cl kV doc pm an cdv ct us zs h1 h2 => match us, zs, h1, h2 with | [_, _], [], _, _ => ⟨_, rfl, rfl⟩
theorem st__law_same : StatD PySem.Challenge.pw_usescale_k05_tallies D u__law_same f__law_same := .inl ⟨rfl, by decide +kernel, fnsc_by (by decide +kernel), rfl, by kernel_rfl⟩
theorem sh__law_same : ShpD u__law_same f__law_same := by
  intro K file f cl dV kV doc pm an cdv ct F Ω hK n ks hm
  simp only [f__law_same, List.mem_cons, List.not_mem_nil, or_false, Prod.mk.injEq] at hm
  rcases hm with ⟨rfl, rfl⟩
  · exact F.shA hK rfl rfl fun cl kV doc pm an cdv ct us zs h1 h2 => match us, zs, h1, h2 with | [_, _], [], _, _ => ⟨_, rfl, rfl⟩
theorem st__law_number : StatD PySem.Challenge.pw_usescale_k05_tallies D u__law_number f__law_number := .inl ⟨rfl, by decide +kernel, fnsc_by (by decide +kernel), rfl, by kernel_rfl⟩
theorem sh__law_number : ShpD u__law_number f__law_number := by
  intro K file f cl dV kV doc pm an cdv ct F Ω hK n ks hm
  simp only [f__law_number, List.mem_cons, List.not_mem_nil, or_false, Prod.mk.injEq] at hm
  rcases hm with ⟨rfl, rfl⟩
  · exact F.shA hK rfl rfl fun cl kV doc pm an cdv ct us zs h1 h2 => match us, zs, h1, h2 with | [_], [], _, _ => ⟨_, rfl, rfl⟩
theorem st__law_within : StatD PySem.Challenge.pw_usescale_k05_tallies D u__law_within f__law_within := .inl ⟨rfl, by decide +kernel, fnsc_by (by decide +kernel), rfl, by kernel_rfl⟩
theorem sh__law_within : ShpD u__law_within f__law_within := by
  intro K file f cl dV kV doc pm an cdv ct F Ω hK n ks hm
  simp only [f__law_within, List.mem_cons, List.not_mem_nil, or_false, Prod.mk.injEq] at hm
  rcases hm with ⟨rfl, rfl⟩
  · exact F.shA hK rfl rfl fun cl kV doc pm an cdv ct us zs h1 h2 => match us, zs, h1, h2 with | [_, _, _], [], _, _ => ⟨_, rfl, rfl⟩
theorem st__law_bound : StatD PySem.Challenge.pw_usescale_k05_tallies D u__law_bound f__law_bound := .inl ⟨rfl, by decide +kernel, fnsc_by (by decide +kernel), rfl, by kernel_rfl⟩
theorem sh__law_bound : ShpD u__law_bound f__law_bound := by
  intro K file f cl dV kV doc pm an cdv ct F Ω hK n ks hm
  simp only [f__law_bound, List.mem_cons, List.not_mem_nil, or_false, Prod.mk.injEq] at hm
  rcases hm with ⟨rfl, rfl⟩
  · exact F.shA hK rfl rfl fun cl kV doc pm an cdv ct us zs h1 h2 => match us, zs, h1, h2 with | [_, _, _], [], _, _ => ⟨_, rfl, rfl⟩
theorem st__law_endless : StatD PySem.Challenge.pw_usescale_k05_tallies D u__law_endless f__law_endless := .inl ⟨rfl, by decide +kernel, fnsc_by (by decide +kernel), rfl, by kernel_rfl⟩
theorem sh__law_endless : ShpD u__law_endless f__law_endless := by
  intro K file f cl dV kV doc pm an cdv ct F Ω hK n ks hm
  simp only [f__law_endless, List.mem_cons, List.not_mem_nil, or_false, Prod.mk.injEq] at hm
  rcases hm with ⟨rfl, rfl⟩
  · exact F.shA hK rfl rfl fun cl kV doc pm an cdv ct us zs h1 h2 => match us, zs, h1, h2 with | [_], [], _, _ => ⟨_, rfl, rfl⟩
theorem st__law_unknown : StatD PySem.Challenge.pw_usescale_k05_tallies D u__law_unknown f__law_unknown := .inl ⟨rfl, by decide +kernel, fnsc_by (by decide +kernel), rfl, by kernel_rfl⟩
theorem sh__law_unknown : ShpD u__law_unknown f__law_unknown := by
  intro K file f cl dV kV doc pm an cdv ct F Ω hK n ks hm
  simp only [f__law_unknown, List.mem_cons, List.not_mem_nil, or_false, Prod.mk.injEq] at hm
  rcases hm with ⟨rfl, rfl⟩
  · exact F.shA hK rfl rfl fun cl kV doc pm an cdv ct us zs h1 h2 => match us, zs, h1, h2 with | [_, _], [], _, _ => ⟨_, rfl, rfl⟩
theorem st__law_far_right : StatD PySem.Challenge.pw_usescale_k05_tallies D u__law_far_right f__law_far_right := .inl ⟨rfl, by decide +kernel, fnsc_by (by decide +kernel), rfl, by kernel_rfl⟩
theorem sh__law_far_right : ShpD u__law_far_right f__law_far_right := by
  intro K file f cl dV kV doc pm an cdv ct F Ω hK n ks hm
  simp only [f__law_far_right, List.mem_cons, List.not_mem_nil, or_false, Prod.mk.injEq] at hm
  rcases hm with ⟨rfl, rfl⟩
  · exact F.shA hK rfl rfl fun cl kV doc pm an cdv ct us zs h1 h2 => match us, zs, h1, h2 with | [_, _], [], _, _ => ⟨_, rfl, rfl⟩
theorem st_law : StatD PySem.Challenge.pw_usescale_k05_tallies D u_law f_law := .inl ⟨rfl, by decide +kernel, fnsc_by (by decide +kernel), rfl, by kernel_rfl⟩
theorem sh_law : ShpD u_law f_law := by
  intro K file f cl dV kV doc pm an cdv ct F Ω hK n ks hm
  simp only [f_law, List.mem_cons, List.not_mem_nil, or_false, Prod.mk.injEq] at hm
  rcases hm with ⟨rfl, rfl⟩
  · exact F.shA hK rfl rfl fun cl kV doc pm an cdv ct us zs h1 h2 => match us, zs, h1, h2 with | [_], [], _, _ => ⟨_, rfl, rfl⟩
theorem texts : Texts PySem.Challenge.pw_usescale_k05_tallies D D.fns us := ⟨_, _, rfl, rfl, by decide +kernel, st_Scale____init__, sh_Scale____init__, ⟨_, _, rfl, rfl, by decide +kernel, st_Scale__places, sh_Scale__places, ⟨_, _, rfl, rfl, by decide +kernel, st_Scale__sum_at, sh_Scale__sum_at, ⟨_, _, rfl, rfl, by decide +kernel, st_Scale__product_at, sh_Scale__product_at, ⟨_, _, rfl, rfl, by decide +kernel, st_Scale__within_at, sh_Scale__within_at, ⟨_, _, rfl, rfl, by decide +kernel, st_Scale__bound_at, sh_Scale__bound_at, ⟨_, _, rfl, rfl, by decide +kernel, st_Scale__name_at, sh_Scale__name_at, ⟨_, _, rfl, rfl, by decide +kernel, st_Scale__at_name, sh_Scale__at_name, ⟨_, _, rfl, rfl, by decide +kernel, st_Scale__times_at, sh_Scale__times_at, ⟨_, _, rfl, rfl, by decide +kernel, st_Tally____init__, sh_Tally____init__, ⟨_, _, rfl, rfl, by decide +kernel, st_Tally__places, sh_Tally__places, ⟨_, _, rfl, rfl, by decide +kernel, st_Tally__sum_at, sh_Tally__sum_at, ⟨_, _, rfl, rfl, by decide +kernel, st_Tally__product_at, sh_Tally__product_at, ⟨_, _, rfl, rfl, by decide +kernel, st_Tally__name_at, sh_Tally__name_at, ⟨_, _, rfl, rfl, by decide +kernel, st_Tally__at_name, sh_Tally__at_name, ⟨_, _, rfl, rfl, by decide +kernel, st_Tally__times_at, sh_Tally__times_at, ⟨_, _, rfl, rfl, by decide +kernel, st_SameOrder__within_at, sh_SameOrder__within_at, ⟨_, _, rfl, rfl, by decide +kernel, st_SameOrder__bound_at, sh_SameOrder__bound_at, ⟨_, _, rfl, rfl, by decide +kernel, st_UpOrder__within_at, sh_UpOrder__within_at, ⟨_, _, rfl, rfl, by decide +kernel, st_UpOrder__bound_at, sh_UpOrder__bound_at, ⟨_, _, rfl, rfl, by decide +kernel, st_DownOrder__within_at, sh_DownOrder__within_at, ⟨_, _, rfl, rfl, by decide +kernel, st_DownOrder__bound_at, sh_DownOrder__bound_at, ⟨_, _, rfl, rfl, by decide +kernel, st_ExactTally____init__, sh_ExactTally____init__, ⟨_, _, rfl, rfl, by decide +kernel, st_MostTally____init__, sh_MostTally____init__, ⟨_, _, rfl, rfl, by decide +kernel, st_LeastTally____init__, sh_LeastTally____init__, ⟨_, _, rfl, rfl, by decide +kernel, st_UnknownGrade____init__, sh_UnknownGrade____init__, ⟨_, _, rfl, rfl, by decide +kernel, st__law_draws, sh__law_draws, ⟨_, _, rfl, rfl, by decide +kernel, st__law_draw, sh__law_draw, ⟨_, _, rfl, rfl, by decide +kernel, st__law_same, sh__law_same, ⟨_, _, rfl, rfl, by decide +kernel, st__law_number, sh__law_number, ⟨_, _, rfl, rfl, by decide +kernel, st__law_within, sh__law_within, ⟨_, _, rfl, rfl, by decide +kernel, st__law_bound, sh__law_bound, ⟨_, _, rfl, rfl, by decide +kernel, st__law_endless, sh__law_endless, ⟨_, _, rfl, rfl, by decide +kernel, st__law_unknown, sh__law_unknown, ⟨_, _, rfl, rfl, by decide +kernel, st__law_far_right, sh__law_far_right, ⟨_, _, rfl, rfl, by decide +kernel, st_law, sh_law,  rfl⟩⟩⟩⟩⟩⟩⟩⟩⟩⟩⟩⟩⟩⟩⟩⟩⟩⟩⟩⟩⟩⟩⟩⟩⟩⟩⟩⟩⟩⟩⟩⟩⟩⟩⟩⟩
theorem xtexts : XTexts PySem.Challenge.pw_usescale_k05_tallies D us D.exn := by
  refine ⟨?x_UsescaleError, ⟨?x_EndlessScale, ⟨?x_NameMissing, ⟨?x_UnknownGrade, trivial⟩⟩⟩⟩
  · exact fun k h => nomatch h
  · exact fun k h => nomatch h
  · exact fun k h => nomatch h
  · exact fun k h _ => by cases h; exact ⟨u_UnknownGrade____init__, List.mem_of_getElem? (i := 25) rfl, f_UnknownGrade____init__, _, _, rfl, sT_UnknownGrade____init__, rfl, by kernel_rfl, by decide, rfl, rfl, fun cl kV doc pm an cdv ct vs hv => match vs, hv with | [_, _], _ => rfl⟩
def clp_0 : List (Str × ClsI) := [("ExactTally", c_ExactTally), ("MostTally", c_MostTally), ("LeastTally", c_LeastTally)]
abbrev R : PySem.W.OpenRow := PySem.W.OpenLaw.row PySem.Challenge.rw_usescale_k05_tallies
def asL : List Addr := [2, 2, 3, 6, 4, 21, 31, 44, 56, 78, 166, 231, 271, 313, 355, 378, 399, 420, 427, 434, 441, 448, 455, 462, 469, 476, 483, 490, 0, 20, 30, 43, 55, 77, 165, 230, 270, 312, 354, 377, 398, 419, 426, 433, 440, 447, 454, 461, 468, 475, 482, 489, 15, 16, 17, 18, 19, 29, 32, 42, 54, 57, 75, 76, 95, 102, 109, 116, 123, 128, 135, 142, 149, 156, 163, 164, 167, 168, 186, 193, 200, 207, 214, 221, 228, 229, 247, 254, 261, 268, 269, 272, 273, 289, 296, 303, 310, 311, 314, 315, 331, 338, 345, 352, 353, 356, 357, 375, 376, 396, 397, 417, 418, 423, 424, 425, 428, 429, 430, 431, 432, 435, 436, 437, 438, 439, 442, 443, 444, 445, 446, 449, 450, 451, 452, 453, 456, 457, 458, 459, 460, 463, 464, 465, 466, 467, 470, 471, 472, 473, 474, 477, 478, 479, 480, 481, 484, 485, 486, 487, 488, 74, 63, 94, 88, 101, 108, 115, 122, 127, 134, 141, 148, 155, 162, 185, 174, 192, 199, 206, 213, 220, 227, 246, 253, 260, 267, 288, 295, 302, 309, 330, 337, 344, 351, 374, 363, 395, 384, 416, 405, 69, 70, 71, 72, 73, 89, 90, 91, 92, 93, 96, 97, 98, 99, 100, 103, 104, 105, 106, 107, 110, 111, 112, 113, 114, 117, 118, 119, 120, 121, 124, 125, 126, 129, 130, 131, 132, 133, 136, 137, 138, 139, 140, 143, 144, 145, 146, 147, 150, 151, 152, 153, 154, 157, 158, 159, 160, 161, 180, 181, 182, 183, 184, 187, 188, 189, 190, 191, 194, 195, 196, 197, 198, 201, 202, 203, 204, 205, 208, 209, 210, 211, 212, 215, 216, 217, 218, 219, 222, 223, 224, 225, 226, 241, 242, 243, 244, 245, 248, 249, 250, 251, 252, 255, 256, 257, 258, 259, 262, 263, 264, 265, 266, 283, 284, 285, 286, 287, 290, 291, 292, 293, 294, 297, 298, 299, 300, 301, 304, 305, 306, 307, 308, 325, 326, 327, 328, 329, 332, 333, 334, 335, 336, 339, 340, 341, 342, 343, 346, 347, 348, 349, 350, 369, 370, 371, 372, 373, 390, 391, 392, 393, 394, 411, 412, 413, 414, 415]
abbrev hk : PySem.W.Hook where
  α := AlU
  obs := fun s => obsU D us PySem.Challenge.pw_usescale_k05_tallies.main.file (He.frG s.heap.get? asL)
  val := fun w => valU D us w
  says := fun w h => ∃ K : PySem.W.Frag, K.In h ∧ SaysU D us PySem.Challenge.pw_usescale_k05_tallies.main.file w K
  of := fun _ _ e => ⟨_, He.frG_in, e⟩
  keeps := fun _ _ _ ⟨K, hK, c⟩ k => ⟨K, PySem.W.Frag.In.keeps hK k, c⟩
def ob (s : PySem.W.SharedT) : AlU := obsU D us PySem.Challenge.pw_usescale_k05_tallies.main.file (He.frG (HandSHeadRun.getT s) asL)
theorem ob_eq (s : PySem.W.SharedT) : ob s = hk.obs s.abs := by
  have e : HandSHeadRun.getT s = s.abs.heap.get? := funext (HandSHeadRun.getT_eq s)
  unfold ob
  rw [e]
def loose0 : List PySem.Str := ["_wall", "UsescaleError", "EndlessScale", "NameMissing", "UnknownGrade", "Scale", "Tally", "SameOrder", "UpOrder", "DownOrder", "ExactTally", "MostTally", "LeastTally", "_law_draws", "_law_draw", "_law_same", "_law_number", "_law_within", "_law_bound", "_law_endless", "_law_unknown", "_law_far_right", "MOST_FIGURES", "FIGURES"]
def loose : List PySem.Str := loose0
theorem runA (w : World) (os : OsState) : (HandSHeadRun.endF (HandSHeadRun.stepQ (HandSHeadRun.denQ HandSHeadRun.tabQ) R.prog w) 60000 R.prog w os).map (fun s => HandSHeadRun.looksF R.prog (PySem.W.boot_heap (w).params) s.abs) = some true := by kernel_rfl
theorem runB (w : World) (os : OsState) : (HandSHeadRun.endF (HandSHeadRun.stepQ (HandSHeadRun.denQ HandSHeadRun.tabQ) R.prog w) 60000 R.prog w os).map (fun s => HandSHeadRun.seenQ (PySem.W.view R.prog [28]) loose (PySem.importedModules R.prog.main.body) (fun s => PySem.W.xlAt (PySem.W.view R.prog [28]) [] s && PySem.W.recOk R.toRowW.records s) s.abs) = some (PySem.W.openGood (PySem.W.view R.prog [28]) loose) := by kernel_rfl
theorem runC (w : World) (os : OsState) : (HandSHeadRun.endF (HandSHeadRun.stepQ (HandSHeadRun.denQ HandSHeadRun.tabQ) R.prog w) 60000 R.prog w os).map (fun s => D.o1 ((fun s => He.frG (HandSHeadRun.getT s) asL) s)) = some true := by kernel_rfl
theorem runD (w : World) (os : OsState) : (HandSHeadRun.endF (HandSHeadRun.stepQ (HandSHeadRun.denQ HandSHeadRun.tabQ) R.prog w) 60000 R.prog w os).map (fun s => D.o3 ((fun s => He.frG (HandSHeadRun.getT s) asL) s)) = some true := by kernel_rfl
theorem runU (w : World) (os : OsState) : (HandSHeadRun.endF (HandSHeadRun.stepQ (HandSHeadRun.denQ HandSHeadRun.tabQ) R.prog w) 60000 R.prog w os).map (fun s => (us.all fun u => u.ok ((fun s => He.frG (HandSHeadRun.getT s) asL) s) PySem.Challenge.pw_usescale_k05_tallies.main.file, us.map fun u => fnS ((fun s => He.frG (HandSHeadRun.getT s) asL) s) u.d.at_, D.kds.map fun t => He.dicW ((fun s => He.frG (HandSHeadRun.getT s) asL) s) (He.ga ((fun s => He.frG (HandSHeadRun.getT s) asL) s) t.1))) = some (true, us.map DU.val, D.kds.map fun t => some (He.keysIn (w).params t.2)) := by kernel_rfl
theorem runK_0 (w : World) (os : OsState) : (HandSHeadRun.endF (HandSHeadRun.stepQ (HandSHeadRun.denQ HandSHeadRun.tabQ) R.prog w) 60000 R.prog w os).map (fun s => clp_0.all fun q => clsB D ((fun s => He.frG (HandSHeadRun.getT s) asL) s) q.1 q.2) = some true := by kernel_rfl
theorem runO (w : World) (os : OsState) : (HandSHeadRun.endF (HandSHeadRun.stepQ (HandSHeadRun.denQ HandSHeadRun.tabQ) R.prog w) 60000 R.prog w os).map ob = some (hk.val w) := obs_of (Kf := (fun s => He.frG (HandSHeadRun.getT s) asL)) (cs := [clp_0]) rfl (runC w os) (runD w os) (fun l hl => by
  simp only [List.mem_cons, List.not_mem_nil, or_false] at hl
  subst hl; exact runK_0 w os
  ) (runU w os)
theorem run (w : World) : HandSHeadRun.RunEq R (PySem.W.view R.prog [28]) hk ob 60000 loose w := run_of3 (runA w) (runB w) (runO w)
theorem umem : u_law ∈ us := List.mem_of_getElem? (i := 35) rfl
/-- the law, once its promise stands -/
theorem holds_of {k : Nat} (hr : Room (k + 2) callerA) (hlaw : ∀ ns : List Int, ns.length ≤ 63 → sem D.G k "law" [.scr ns] (fun _ => none) (fun v _ => v = .bl true) (fun _ _ => False)) : PySem.Challenge.rw_usescale_k05_tallies.Holds := by
  w_on; o_law
  refine HandSHeadRun.head_any (r := PySem.W.OpenLaw.row PySem.Challenge.rw_usescale_k05_tallies) (q := PySem.W.view (PySem.W.OpenLaw.row PySem.Challenge.rw_usescale_k05_tallies).prog [28]) (H := hk) (ob := ob) (M := 60000) (loose := loose) (d := HandSHeadRun.topDef (PySem.W.OpenLaw.row PySem.Challenge.rw_usescale_k05_tallies).prog 28) (kwd := []) ob_eq
    (by kernel_rfl) (fun s => by kernel_rfl) run (by kernel_rfl) (by kernel_rfl) (by kernel_rfl) (by rfl) (by first | assumption | decide +kernel) (by decide +kernel) ⟨rfl, rfl, rfl, rfl, rfl, by decide +kernel⟩ ?hw ?hc
  case hw => w_witness2
  case hc =>
    exact walk_u (m := 6) (l := PySem.Challenge.rw_usescale_k05_tallies) (um := u_law) (x := "_law_script") (fi := f_law) rfl (by decide) (by kernel_rfl) hr (by kernel_rfl) texts xtexts (by decide +kernel) (by kernel_rfl) rfl umem (by decide +kernel) rfl (fun _ _ _ _ _ _ _ _ => rfl) hlaw
end LawK05

namespace Uw
open PySem PySem.Spec PyProof.Rows L2
/-! ### the draws, with a power for great numbers -/
def tDrawP6 : T := .cons (.ifs (.cmp .Gt (.var 1) (.bin .Pow (.int 10) (.int 8))) (.cons (.asg (.gn 4) (.bin .Pow (.var 4) (.int 7))) .nil) .nil) tDraw6
def tDrawP5 : T := .cons (.asg (.gn 4) (.bin .Mod (.blt .int (.cons (.bin .Add (.bin .Mult (.var 4) (.int 48271)) (.bin .Mult (.idx (.var 0) (.int 3)) (.int 69621))) .nil)) (.int 2147483647))) tDrawP6
def tDrawP4 : T := .cons (.asg (.gn 4) (.bin .Mod (.blt .int (.cons (.bin .Mult (.var 4) (.var 4)) .nil)) (.int 1000000007))) tDrawP5
def tDrawP3 : T := .cons (.augs (.var 0) (.int 3) .Add (.int 1)) (.cons (.asg (.gn 4) (.bin .Mod (.blt .int (.cons (.bin .Add (.idx (.var 0) (.int 2)) (.bin .Mult (.idx (.var 0) (.int 3)) (.int 7919))) .nil)) (.int 998244353))) tDrawP4)
def tDrawP2 : T := .cons (.ifs (.cmp .Gt (.idx (.var 0) (.int 1)) (.int 1)) tDrawD .nil) tDrawP3
def tDrawP1 : T := .cons (.whl tDrawC tDrawB) tDrawP2
def tDrawP : T := .cons (.ifs (.cmp .Lt (.var 1) (.int 2)) (.cons (.ret (.int 0)) .nil) .nil) tDrawP1
section
variable {G : GT} {L : Lv}
theorem drawP_rest {st q : Addr} {many : Int} {H : HpW} {Q : QW} {E : EW} (hm : 2 ≤ many) (hm2 : many < 1073741824 ∨ many.natAbs.log2 < 9000) (d : DS H st q) (a b c : Option W) (h : ∀ r H', 0 ≤ r → r < many → DS H' st q → Off st q H H' → Q (.int r) H') :
    wS G L tDrawP2 (fnEnds Q E) [some (.ref st), some (.int many), a, b, c] H := by
  obtain ⟨ne, ns, cc, s, k, e1, e2⟩ := d
  have hm0 : 0 < many := by omega
  have ret : ∀ r H', 0 ≤ r → r < many → DS H' st q → Off st q H H' → (fnEnds Q E).rt (.int r) H' := fun r H' h1 h2 h3 h4 => ⟨H', Sub.refl, h r H' h1 h2 h3 h4⟩
  by_cases hc : 1 < cc
  · have := ret (cc % many) (updW H st (.lst [.ref q, .int (cc / many), .int s, .int k])) (modR cc hm0).1 (modR cc hm0).2 ⟨ne, ns, _, s, k, updW_same, by rw [updW_ne (Ne.symm ne)]; exact e2⟩ Off.refl.st
    simpa [tDrawP2, tDrawD, e1, hc, setsW, hm0, hm2] using this
  · have go : ∀ v : Int, (fnEnds Q E).rt (.int (v / 8 % many)) (updW H st (.lst [.ref q, .int cc, .int s, .int (k + 1)])) := fun v =>
      ret _ _ (modR _ hm0).1 (modR _ hm0).2 ⟨ne, ns, _, s, _, updW_same, by rw [updW_ne (Ne.symm ne)]; exact e2⟩ Off.refl.st
    have m1 : ∀ v : Int, MulOk v 7919 := fun v => mulOk_r (by decide) (by decide)
    have m2 : ∀ v : Int, MulOk v 69621 := fun v => mulOk_r (by decide) (by decide)
    have m3 : ∀ v : Int, MulOk v 48271 := fun v => mulOk_r (by decide) (by decide)
    have m4 : ∀ v : Int, MulOk (v % 998244353) (v % 998244353) := fun v => mulOk_l (by have := modR v (j := 998244353) (by decide); omega) (by have := modR v (j := 998244353) (by decide); omega)
    have p1 : CPow 10 8 := ⟨by decide, by decide, by decide⟩
    have p2 : ∀ v : Int, CPow (v % 2147483647) 7 := fun v => by
      have := modR v (j := 2147483647) (by decide)
      exact ⟨by decide, by decide, by omega⟩
    by_cases hg : 100000000 < many
    · simpa [tDrawP2, tDrawP3, tDrawP4, tDrawP5, tDrawP6, tDraw6, e1, hc, setsW, idxL, hm0, m1, m2, m3, m4, p1, p2, hg, updW_same] using go _
    · simpa [tDrawP2, tDrawP3, tDrawP4, tDrawP5, tDrawP6, tDraw6, e1, hc, setsW, idxL, hm0, m1, m2, m3, m4, p1, p2, hg, updW_same] using go _
theorem sp_drawP {n : Nat} {fi : FnI} (hf : G.fn "_law_draw" = some fi) (hp : fi.ps.length = 2) (hv : fi.nv = 5) (hb : fi.body = tDrawP) {st q : Addr} {many : Int} {H : HpW} {Q : QW} {E : EW} (hm2 : many < 1073741824 ∨ many.natAbs.log2 < 9000) (d : DS H st q)
    (h : ∀ r H', 0 ≤ r → (r < many ∨ (many < 2 ∧ r = 0)) → DS H' st q → Off st q H H' → Q (.int r) H') : sem G (n + 1) "_law_draw" [.ref st, .int many] H Q E := by
  refine sem_fn hf (by rw [hp]; rfl) ?_
  rw [hb, hv]
  show wS G (semP G n) tDrawP (fnEnds Q E) [some (.ref st), some (.int many), none, none, none] H
  by_cases hc : many < 2
  · have : (fnEnds Q E).rt (.int 0) H := ⟨H, Sub.refl, h 0 H (Int.le_refl _) (.inr ⟨hc, rfl⟩) d .refl⟩
    simpa [tDrawP, hc] using this
  · have key : wS G (semP G n) tDrawP1 (fnEnds Q E) [some (.ref st), some (.int many), none, none, none] H := by
      unfold tDrawP1
      rw [s_cons]
      exact draw_loop d none none none fun H' a d' o' => drawP_rest (by omega) hm2 d' a none none fun r H2 h1 h2 d2 o2 => h r H2 h1 (.inl h2) d2 (o'.trans o2)
    simpa [tDrawP, hc] using key
theorem kn_drawP {n : Nat} {fi : FnI} (hf : G.fn "_law_draw" = some fi) (hp : fi.ps.length = 2) (hv : fi.nv = 5) (hb : fi.body = tDrawP) {K H : HpW} {st q : Addr} {many : Int} {Q : QW} {E : EW} (hm2 : many < 1073741824 ∨ many.natAbs.log2 < 9000) (s : Kn K H st q)
    (h : ∀ r H', 0 ≤ r → (r < many ∨ (many < 2 ∧ r = 0)) → Kn K H' st q → Q (.int r) H') : sem G (n + 1) "_law_draw" [.ref st, .int many] H Q E :=
  sp_drawP hf hp hv hb hm2 s.ds fun r H' r0 r1 d o => h r H' r0 r1 (s.draw d o)
end
end Uw

/-! decimal names of integers from 0 -/
namespace Uw
open PySem PySem.Spec PyProof.Rows L2 TL
def numS (n : Nat) : Str := Str.ofString (toString (n : Int))
theorem numS_cps (n : Nat) : (numS n).cps.toList = numL n := tl_num n
theorem numS_length (n : Nat) : (numS n).length = (numL n).length := by
  rw [← numS_cps]
  exact (Array.length_toList).symm
theorem numS_le {n k : Nat} (hk : 0 < k) (h : n < 10 ^ k) : (numS n).length ≤ k := by
  rw [numS_length]
  exact numL_len hk h
theorem numS_pos (n : Nat) : 0 < (numS n).length := by
  rw [numS_length]
  exact List.length_pos_iff.mpr (numL_ne n)
theorem numS_inj {m n : Nat} (h : numS m = numS n) : m = n := numL_inj (by rw [← numS_cps, h, numS_cps])
theorem numL_head {n : Nat} (h : 10 ≤ n) : ∃ c r, numL n = c :: r ∧ c ≠ 48 ∧ r ≠ [] := by
  induction n using Nat.strongRecOn with
  | _ n ih =>
    rw [numL_step h]
    by_cases h2 : n / 10 < 10
    · rw [numL_lt h2]
      exact ⟨_, _, rfl, by omega, by simp⟩
    · obtain ⟨c, r, e, h3, h4⟩ := ih (n / 10) (by omega) (by omega)
      rw [e]
      exact ⟨c, r ++ [48 + n % 10], rfl, h3, by simp⟩
/-- no nought ahead -/
theorem numL_lead {n : Nat} : (numL n).head? = some 48 → (numL n).length = 1 := by
  by_cases h : n < 10
  · rw [numL_lt h]
    intro _
    rfl
  · obtain ⟨c, r, e, h3, _⟩ := numL_head (n := n) (by omega)
    rw [e]
    intro q
    cases q
    exact absurd rfl h3
theorem numS_int {n : Nat} (h : (numS n).length ≤ 4300) : PySem.intText? (numS n) = some (n : Int) := int_num (by rw [← numS_length]; exact h)
/-- log2 of what is below 10 ^ 4000 -/
theorem log_big {i : Int} (h0 : 0 ≤ i) (h1 : i < 10 ^ 4000) : i.natAbs.log2 < 14284 := by
  obtain ⟨n, rfl⟩ := Int.eq_ofNat_of_zero_le h0
  rw [Int.natAbs_natCast]
  have h2 : n < 10 ^ 4000 := by
    rw [show ((10 : Int) ^ 4000) = ((10 ^ 4000 : Nat) : Int) from (Int.natCast_pow 10 4000).symm] at h1
    exact Int.ofNat_lt.mp h1
  by_cases hz : n = 0
  · subst hz
    decide
  · refine (Nat.log2_lt hz).mpr (Nat.lt_of_lt_of_le h2 ?_)
    decide +kernel
end Uw

namespace LawK05
open PySem PySem.Spec PyProof.Rows L2 Uw
/-! ### the base of a law's text: 05 is the law's number -/
theorem ev {fi : FnI} {n : Nat} {k : Str} {ws : List W} {H : HpW} {Q : QW} {E : EW} {t : T} {m : Nat} (hf : D.G.fn k = some fi) (hl : ws.length = fi.ps.length) (hb : fi.body = t) (hv : fi.nv = m) (h : wS D.G (semP D.G n) t (fnEnds Q E) (ws.map some ++ List.replicate (m - ws.length) none) H) : sem D.G (n + 1) k ws H Q E := sem_ev hf hl hb hv h
abbrev fin : EndsW := fnEnds (fun v _ => v = W.bl true) fun _ _ => False
abbrev K0 : HpW := fun _ => none
theorem bdraws : f__law_draws.body = tDraws := by kernel_rfl
theorem bdraw : f__law_draw.body = tDraw := by kernel_rfl
theorem dr {n : Nat} {K H : HpW} {st q : Addr} {many : Int} {Q : QW} {E : EW} (hm : many < 1000) (s : Kn K H st q) (h : ∀ r H', 0 ≤ r → (r < many ∨ (many < 2 ∧ r = 0)) → Kn K H' st q → Q (.int r) H') : sem D.G (n + 1) "_law_draw" [.ref st, .int many] H Q E :=
  kn_draw fn__law_draw ps__law_draw nv__law_draw bdraw (.inl (by omega)) s h
theorem drW {n : Nat} {K H : HpW} {st q : Addr} {many : Int} {Q : QW} {E : EW} (hm : many.natAbs.log2 < 9000) (s : Kn K H st q) (h : ∀ r H', 0 ≤ r → (r < many ∨ (many < 2 ∧ r = 0)) → Kn K H' st q → Q (.int r) H') : sem D.G (n + 1) "_law_draw" [.ref st, .int many] H Q E :=
  kn_draw fn__law_draw ps__law_draw nv__law_draw bdraw (.inr hm) s h
theorem bsame : f__law_same.body = tSame := by kernel_rfl
theorem same {n d : Nat} {w u : W} {H : HpW} {Q : QW} {E : EW} (s : SameD H d w u) (h : Q (.bl true) H) : sem D.G (n + d + 1) "_law_same" [w, u] H Q E := sp_same fn__law_same ps__law_same nv__law_same bsame (fun _ _ => bd__law_same_2) s h
/-! ### what all scales have -/
/-- the class c keeps the fields of a scale -/
structure IsSc (c : Str) (ci : ClsI) : Prop where
  cl : D.G.cl c = some ci
  f1 : (("size" : Str) ∈ ci.flds) = True
  f2 : (("zero_at" : Str) ∈ ci.flds) = True
  f3 : (("one_at" : Str) ∈ ci.flds) = True
  f4 : (("label" : Str) ∈ ci.flds) = True
  f5 : (("depth" : Str) ∈ ci.flds) = True
theorem sp_sinit {n : Nat} {x : Addr} {c : Str} {ci : ClsI} (I : IsSc c ci) {a b d e f : W} {H : HpW} {Q : QW} {E : EW} (hx : H x = some (.ins c []))
    (h : Q .non (updW H x (.ins c [("size", a), ("zero_at", b), ("one_at", d), ("label", e), ("depth", f)]))) : sem D.G (n + 1) "Scale.__init__" [.ref x, a, b, d, e, f] H Q E := by
  refine ev fn_Scale____init__ rfl bo_Scale____init__ nv_Scale____init__ ?_
  simp [t_Scale____init__, t_Scale____init___1, t_Scale____init___2, t_Scale____init___3, t_Scale____init___4, hx, I.cl, I.f1, I.f2, I.f3, I.f4, I.f5]
  exact ends_nx h
/-! ### tallies -/
theorem iE : IsSc "ExactTally" c_ExactTally := ⟨cl_ExactTally, fl_ExactTally_size, fl_ExactTally_zero_at, fl_ExactTally_one_at, fl_ExactTally_label, fl_ExactTally_depth⟩
theorem iM : IsSc "MostTally" c_MostTally := ⟨cl_MostTally, fl_MostTally_size, fl_MostTally_zero_at, fl_MostTally_one_at, fl_MostTally_label, fl_MostTally_depth⟩
theorem iL : IsSc "LeastTally" c_LeastTally := ⟨cl_LeastTally, fl_LeastTally_size, fl_LeastTally_zero_at, fl_LeastTally_one_at, fl_LeastTally_label, fl_LeastTally_depth⟩
def talF (lab : Str) : List (Str × W) := [("size", .non), ("zero_at", .int 0), ("one_at", .int 1), ("label", .str lab), ("depth", .int 1)]
theorem sp_tinit0 {c : Str} {ci : ClsI} (I : IsSc c ci) (hs : D.G.sup c "Tally" "__init__" = some "Scale.__init__") {n : Nat} {x : Addr} {lab : Str} {H : HpW} {Q : QW} {E : EW} (hx : H x = some (.ins c [])) (h : Q .non (updW H x (.ins c (talF lab)))) : sem D.G (n + 2) "Tally.__init__" [.ref x, .str lab] H Q E := by
  refine ev (n := n + 1) fn_Tally____init__ rfl bo_Tally____init__ nv_Tally____init__ ?_
  simp [t_Tally____init__, hx, I.cl, hs]
  refine sp_sinit (n := n) I hx ?_
  exact ends_nx h
theorem sp_tE {n : Nat} {x : Addr} {H : HpW} {Q : QW} {E : EW} (hx : H x = some (.ins "ExactTally" [])) (h : Q .non (updW H x (.ins "ExactTally" (talF "(tally same)")))) : sem D.G (n + 3) "ExactTally.__init__" [.ref x] H Q E := by
  refine ev fn_ExactTally____init__ rfl bo_ExactTally____init__ nv_ExactTally____init__ ?_
  simp [t_ExactTally____init__, hx]
  exact sp_tinit0 (n := n) iE su_ExactTally_Tally hx (ends_nx h)
theorem sp_tM {n : Nat} {x : Addr} {H : HpW} {Q : QW} {E : EW} (hx : H x = some (.ins "MostTally" [])) (h : Q .non (updW H x (.ins "MostTally" (talF "(tally up)")))) : sem D.G (n + 3) "MostTally.__init__" [.ref x] H Q E := by
  refine ev fn_MostTally____init__ rfl bo_MostTally____init__ nv_MostTally____init__ ?_
  simp [t_MostTally____init__, hx]
  exact sp_tinit0 (n := n) iM su_MostTally_Tally hx (ends_nx h)
theorem sp_tL {n : Nat} {x : Addr} {H : HpW} {Q : QW} {E : EW} (hx : H x = some (.ins "LeastTally" [])) (h : Q .non (updW H x (.ins "LeastTally" (talF "(tally down)")))) : sem D.G (n + 3) "LeastTally.__init__" [.ref x] H Q E := by
  refine ev fn_LeastTally____init__ rfl bo_LeastTally____init__ nv_LeastTally____init__ ?_
  simp [t_LeastTally____init__, hx]
  exact sp_tinit0 (n := n) iL su_LeastTally_Tally hx (ends_nx h)
/-- the order of the tally s -/
def wiT (s : Nat) (a b : Int) : Bool := if s = 1 then decide (a ≤ b) else if s = 2 then decide (b ≤ a) else decide (a = b)
def bnT (s : Nat) (a b : Int) : W := if wiT s a b then .int b else if wiT s b a then .int a else .non
/-- what the class of the tally s has -/
structure TalC (s : Nat) (c : Str) (ci : ClsI) : Prop where
  i : IsSc c ci
  mP : ci.meth.lookup ("places" : Str) = some "Tally.places"
  mS : ci.meth.lookup ("sum_at" : Str) = some "Tally.sum_at"
  mM : ci.meth.lookup ("product_at" : Str) = some "Tally.product_at"
  mN : ci.meth.lookup ("name_at" : Str) = some "Tally.name_at"
  mA : ci.meth.lookup ("at_name" : Str) = some "Tally.at_name"
  mT : ci.meth.lookup ("times_at" : Str) = some "Tally.times_at"
  wi : ∃ key fik, ci.meth.lookup ("within_at" : Str) = some key ∧ D.G.fn key = some fik ∧ (∀ a b c, fik.bind [] [a, b, c] [] = some [a, b, c]) ∧ ∀ (n : Nat) (x : W) (a b : Int) (H : HpW) (Q : QW) (E : EW), Q (.bl (wiT s a b)) H → sem D.G (n + 1) key [x, .int a, .int b] H Q E
  bo : ∃ key fik, ci.meth.lookup ("bound_at" : Str) = some key ∧ D.G.fn key = some fik ∧ (∀ a b c, fik.bind [] [a, b, c] [] = some [a, b, c]) ∧ ∀ (n : Nat) (x : W) (a b : Int) (H : HpW) (Q : QW) (E : EW), Q (bnT s a b) H → sem D.G (n + 1) key [x, .int a, .int b] H Q E
theorem talE : TalC 0 "ExactTally" c_ExactTally := by
  refine ⟨iE, me_ExactTally_places, me_ExactTally_sum_at, me_ExactTally_product_at, me_ExactTally_name_at, me_ExactTally_at_name, me_ExactTally_times_at, ⟨_, _, me_ExactTally_within_at, fn_SameOrder__within_at, fun a b c => bd_SameOrder__within_at_3, fun n x a b H Q E h => ?_⟩, ⟨_, _, me_ExactTally_bound_at, fn_SameOrder__bound_at, fun a b c => bd_SameOrder__bound_at_3, fun n x a b H Q E h => ?_⟩⟩
  · refine ev fn_SameOrder__within_at rfl bo_SameOrder__within_at nv_SameOrder__within_at ?_
    simp [t_SameOrder__within_at]
    refine ends_rt ?_
    simpa [wiT] using h
  · refine ev fn_SameOrder__bound_at rfl bo_SameOrder__bound_at nv_SameOrder__bound_at ?_
    simp [t_SameOrder__bound_at]
    by_cases e : a = b
    · subst e
      simp [bnT, wiT] at h
      simpa using ends_rt h
    · have e' : ¬ b = a := fun q => e q.symm
      simp [bnT, wiT, e, e'] at h
      simpa [e] using ends_rt h
theorem talM : TalC 1 "MostTally" c_MostTally := by
  refine ⟨iM, me_MostTally_places, me_MostTally_sum_at, me_MostTally_product_at, me_MostTally_name_at, me_MostTally_at_name, me_MostTally_times_at, ⟨_, _, me_MostTally_within_at, fn_UpOrder__within_at, fun a b c => bd_UpOrder__within_at_3, fun n x a b H Q E h => ?_⟩, ⟨_, _, me_MostTally_bound_at, fn_UpOrder__bound_at, fun a b c => bd_UpOrder__bound_at_3, fun n x a b H Q E h => ?_⟩⟩
  · refine ev fn_UpOrder__within_at rfl bo_UpOrder__within_at nv_UpOrder__within_at ?_
    simp [t_UpOrder__within_at]
    refine ends_rt ?_
    simpa [wiT] using h
  · refine ev fn_UpOrder__bound_at rfl bo_UpOrder__bound_at nv_UpOrder__bound_at ?_
    simp [t_UpOrder__bound_at]
    by_cases e : a ≤ b
    · simp [bnT, wiT, e] at h
      simpa [e] using ends_rt h
    · have e' : b ≤ a := by omega
      simp [bnT, wiT, e, e'] at h
      simpa [e] using ends_rt h
theorem talL : TalC 2 "LeastTally" c_LeastTally := by
  refine ⟨iL, me_LeastTally_places, me_LeastTally_sum_at, me_LeastTally_product_at, me_LeastTally_name_at, me_LeastTally_at_name, me_LeastTally_times_at, ⟨_, _, me_LeastTally_within_at, fn_DownOrder__within_at, fun a b c => bd_DownOrder__within_at_3, fun n x a b H Q E h => ?_⟩, ⟨_, _, me_LeastTally_bound_at, fn_DownOrder__bound_at, fun a b c => bd_DownOrder__bound_at_3, fun n x a b H Q E h => ?_⟩⟩
  · refine ev fn_DownOrder__within_at rfl bo_DownOrder__within_at nv_DownOrder__within_at ?_
    simp [t_DownOrder__within_at]
    refine ends_rt ?_
    simpa [wiT] using h
  · refine ev fn_DownOrder__bound_at rfl bo_DownOrder__bound_at nv_DownOrder__bound_at ?_
    simp [t_DownOrder__bound_at]
    by_cases e : b ≤ a
    · simp [bnT, wiT, e] at h
      simpa [e] using ends_rt h
    · have e' : a ≤ b := by omega
      simp [bnT, wiT, e, e'] at h
      simpa [e] using ends_rt h
/-- the tally s at x -/
def IsT (H : HpW) (x : Addr) (s : Nat) : Prop := ∃ c ci lab, TalC s c ci ∧ H x = some (.ins c (talF lab))
theorem IsT.sub {H H' : HpW} {x : Addr} {s : Nat} (h : IsT H x s) (k : Sub H H') : IsT H' x s := by
  obtain ⟨c, ci, lab, t, e⟩ := h
  exact ⟨c, ci, lab, t, k _ _ e⟩
section
variable {n s : Nat} {x : Addr} {a b : Int} {H : HpW} {Q : QW} {E : EW}
theorem sp_tsum {x : W} (h : Q (.int (a + b)) H) : sem D.G (n + 1) "Tally.sum_at" [x, .int a, .int b] H Q E := by
  refine ev fn_Tally__sum_at rfl bo_Tally__sum_at nv_Tally__sum_at ?_
  simp [t_Tally__sum_at]
  exact ends_rt h
theorem sp_tprod {x : W} (hm : MulOk a b) (h : Q (.int (a * b)) H) : sem D.G (n + 1) "Tally.product_at" [x, .int a, .int b] H Q E := by
  refine ev fn_Tally__product_at rfl bo_Tally__product_at nv_Tally__product_at ?_
  simp [t_Tally__product_at]
  exact ⟨hm, ends_rt h⟩
theorem sp_tname {x : W} (ha : a.natAbs.log2 < 14284) (h : Q (.str (toString a)) H) : sem D.G (n + 1) "Tally.name_at" [x, .int a] H Q E := by
  refine ev fn_Tally__name_at rfl bo_Tally__name_at nv_Tally__name_at ?_
  simp [t_Tally__name_at]
  exact ⟨ha, ends_rt h⟩
theorem sp_ttimes {x : W} (h : Q (.int a) H) : sem D.G (n + 1) "Tally.times_at" [x, .int a] H Q E := by
  refine ev fn_Tally__times_at rfl bo_Tally__times_at nv_Tally__times_at ?_
  simp [t_Tally__times_at]
  exact ends_rt h
theorem sp_tplaces {x : W} (h : E ⟨.own "EndlessScale", []⟩ H) : sem D.G (n + 1) "Tally.places" [x] H Q E := by
  refine ev fn_Tally__places rfl bo_Tally__places nv_Tally__places ?_
  simp [t_Tally__places]
  exact ends_ex h
/-- a text that Tally.at_name takes -/
def okNum (z : Str) : Prop := z.length ≠ 0 ∧ z.length ≤ 4300 ∧ ¬ (z.cps.toList.head? = some 48 ∧ 1 < z.length) ∧ ∀ c ∈ z.cps.toList, signIn ⟨#[c]⟩ "0123456789" = true
theorem sign_dig {c : Nat} : signIn ⟨#[c]⟩ "0123456789" = true ↔ 48 ≤ c ∧ c ≤ 57 := by
  have e : ("0123456789" : Str).cps.toList = [48, 49, 50, 51, 52, 53, 54, 55, 56, 57] := by decide +kernel
  simp only [signIn, e]
  simp
  omega
end
section
variable {n : Nat} {x : W} {z : Str} {H : HpW} {Q : QW} {E : EW}
theorem num_loop {m : Nat} {D0 : EndsW} (hx : ∀ σ, D0.ex ⟨.own "UnknownGrade", [("name", .str z)]⟩ σ H ∨ ∀ c ∈ z.cps.toList, signIn ⟨#[c]⟩ "0123456789" = true) (hn : (∀ c ∈ z.cps.toList, signIn ⟨#[c]⟩ "0123456789" = true) → ∀ y, D0.nx [some x, some (.str z), y] H) : ∀ (cs ds : List Nat) (y : Option W), ds ++ cs = z.cps.toList → (∀ c ∈ ds, signIn ⟨#[c]⟩ "0123456789" = true) →
    forW (wG (.gn 2)) (wS D.G (semP D.G m) t_Tally__at_name_1c) D0 (fun _ => True) (cs.map fun c => W.str ⟨#[c]⟩) [some x, some (.str z), y] H
  | [], ds, y, he, hd => ⟨trivial, hn (fun c hc => hd c (by rw [List.append_nil] at he; rw [he]; exact hc)) _⟩
  | c :: cs, ds, y, he, hd => by
    refine ⟨trivial, ?_⟩
    by_cases e : signIn ⟨#[c]⟩ "0123456789" = true
    · have := num_loop (m := m) hx hn cs (ds ++ [c]) (some (.str ⟨#[c]⟩)) (by rw [← he]; simp) (fun c' hc' => by
        rcases List.mem_append.mp hc' with q | q
        · exact hd c' q
        · rw [List.mem_singleton.mp q]; exact e)
      simpa [t_Tally__at_name_1c, cmpW, inW, e] using this
    · have e' : signIn ⟨#[c]⟩ "0123456789" = false := by simpa using e
      have q := (hx [some x, some (.str z), some (.str ⟨#[c]⟩)]).resolve_right fun h => e (h c (by rw [← he]; simp))
      simpa [t_Tally__at_name_1c, t_Tally__at_name_1ca, cmpW, inW, e', fldsOf] using q
theorem sp_tat (hl : z.length ≤ sizeLine) (h1 : ¬ okNum z → E ⟨.own "UnknownGrade", [("name", .str z)]⟩ H) (h2 : okNum z → ∃ v, PySem.intText? z = some v ∧ Q (.int v) H) : sem D.G (n + 1) "Tally.at_name" [x, .str z] H Q E := by
  refine ev fn_Tally__at_name rfl bo_Tally__at_name nv_Tally__at_name ?_
  have sz : sizeLine = 16777216 := rfl
  have l0 : (z = "") = (z.length = 0) := by
    refine propext ⟨fun e => by rw [e]; rfl, fun e => ?_⟩
    have : z.cps = #[] := Array.eq_empty_of_size_eq_zero e
    cases z
    subst this
    rfl
  have raise : ¬ okNum z → ∀ σ, (fnEnds Q E).ex ⟨.own "UnknownGrade", [("name", .str z)]⟩ σ H := fun h σ => ends_ex (h1 h)
  have lenR : ∀ Q : QW, bltW .len [.str z] H Q = Q (.int z.length) H := fun Q => by simp [bltW, hl]
  by_cases e0 : z.length = 0
  · have e : z = Str.ofString "" := l0.mpr e0
    have q := raise (fun h => h.1 e0) [some x, some (.str z), none]
    simpa [t_Tally__at_name, t_Tally__at_namea, e, fldsOf] using q
  have e : ¬ z = Str.ofString "" := fun e => e0 (l0.mp e)
  by_cases e1 : (4300 : Int) < (z.length : Int)
  · have q := raise (fun h => by have := h.2.1; omega) [some x, some (.str z), none]
    simpa [t_Tally__at_name, t_Tally__at_namea, e, e1, lenR, fldsOf] using q
  obtain ⟨c, r, ec⟩ : ∃ c r, z.cps.toList = c :: r := by
    cases ez : z.cps.toList with
    | nil => exact absurd (show z.length = 0 by rw [show z.length = z.cps.toList.length from Array.length_toList.symm, ez]; rfl) e0
    | cons c r => exact ⟨c, r, rfl⟩
  have hat : atI z.cps.toList 0 = some c := by rw [ec]; simpa using atI_nat (xs := c :: r) (j := 0) (v := c) rfl
  have go : ¬ (c = 48 ∧ 1 < z.length) → wS D.G (semP D.G n) t_Tally__at_name_1 (fnEnds Q E) [some x, some (.str z), none] H := fun hh => by
    have key : ∀ b : Prop, (b ↔ ∀ c ∈ z.cps.toList, signIn ⟨#[c]⟩ "0123456789" = true) → (b ↔ okNum z) := fun b hb => ⟨fun h => ⟨e0, by omega, by rw [ec]; simpa using hh, hb.mp h⟩, fun h => hb.mpr h.2.2.2⟩
    by_cases ok : okNum z
    · obtain ⟨v, hv, hq⟩ := h2 ok
      simp [t_Tally__at_name_1, iterW]
      refine num_loop (z := z) (fun _ => .inr ok.2.2.2) (fun _ y => ?_) z.cps.toList [] none rfl (by simp)
      simp [t_Tally__at_name_2, hv]
      exact ⟨hl, ends_rt hq⟩
    · simp [t_Tally__at_name_1, iterW]
      refine num_loop (z := z) (fun σ => .inl ?_) (fun ha y => absurd ((key _ Iff.rfl).mp ha) ok) z.cps.toList [] none rfl (by simp)
      exact raise ok σ
  by_cases e2 : c = 48
  · by_cases e3 : 1 < z.length
    · have q := raise (fun h => h.2.2.1 ⟨by rw [ec, e2]; rfl, e3⟩) [some x, some (.str z), none]
      have e2' : (⟨#[c]⟩ : Str) = Str.ofString "0" := by rw [e2]; decide +kernel
      have e3' : (1 : Int) < (z.length : Int) := by omega
      simpa [t_Tally__at_name, t_Tally__at_namea, e, e1, lenR, hl, hat, e2', e3', fldsOf] using q
    · have e2' : (⟨#[c]⟩ : Str) = Str.ofString "0" := by rw [e2]; decide +kernel
      have e3' : ¬ (1 : Int) < (z.length : Int) := by omega
      simpa [t_Tally__at_name, t_Tally__at_namea, e, e1, lenR, hl, hat, e2', e3'] using go fun h => e3 h.2
  · have e2' : ¬ (⟨#[c]⟩ : Str) = Str.ofString "0" := fun q => e2 (by
      have := congrArg (fun s : Str => s.cps.toList) q
      rw [show (Str.ofString "0").cps.toList = [48] by decide +kernel] at this
      simpa using this)
    simpa [t_Tally__at_name, t_Tally__at_namea, e, e1, lenR, hl, hat, e2'] using go fun h => e2 h.1
end
theorem ok_numS {m : Nat} (h : m < 10 ^ 4000) : okNum (numS m) := by
  have hl := numS_le (k := 4000) (by decide) h
  refine ⟨by have := numS_pos m; omega, by omega, fun q => ?_, fun c hc => ?_⟩
  · rw [numS_cps, numS_length] at q
    have := numL_lead q.1
    omega
  · rw [numS_cps] at hc
    exact sign_dig.mpr (TL.numL_digits m c hc)
theorem sp_tatN {n m : Nat} {x : W} {H : HpW} {Q : QW} {E : EW} (h : m < 10 ^ 4000) (q : Q (.int m) H) : sem D.G (n + 1) "Tally.at_name" [x, .str (numS m)] H Q E := by
  have hl := numS_le (k := 4000) (by decide) h
  have sz : sizeLine = 16777216 := rfl
  exact sp_tat (by omega) (fun k => absurd (ok_numS h) k) fun _ => ⟨m, numS_int (by omega), q⟩

end LawK05

namespace LawK05
open PySem PySem.Spec PyProof.Rows L2 Uw
def BN (k : Nat) (a : Int) : Prop := 0 ≤ a ∧ a < 10 ^ k
theorem BN.mono {j k : Nat} {a : Int} (h : BN j a) (hk : j ≤ k) : BN k a := ⟨h.1, Int.lt_of_lt_of_le h.2 (by
  have := Nat.pow_le_pow_right (n := 10) (by decide) hk
  have e : ∀ m : Nat, ((10 : Int) ^ m) = ((10 ^ m : Nat) : Int) := fun m => Int.natCast_pow 10 m
  rw [e, e]
  exact Int.ofNat_le.mpr this)⟩
theorem BN.mul {k : Nat} {a : Int} (h : BN k a) (j : Nat) : BN (k + j) (a * 10 ^ j) := by
  have p : (0 : Int) < 10 ^ j := Int.pow_pos (by decide)
  refine ⟨Int.mul_nonneg h.1 (Int.le_of_lt p), ?_⟩
  rw [Int.pow_add]
  exact Int.mul_lt_mul_of_pos_right h.2 p
theorem BN.log {k : Nat} {a : Int} (h : BN k a) (hk : k ≤ 4000) : a.natAbs.log2 < 14284 := log_big h.1 (h.mono hk).2
theorem BN.nat {k : Nat} {a : Int} (h : BN k a) : ∃ m : Nat, a = m ∧ m < 10 ^ k := by
  obtain ⟨m, rfl⟩ := Int.eq_ofNat_of_zero_le h.1
  refine ⟨m, rfl, ?_⟩
  have := h.2
  rw [show ((10 : Int) ^ k) = ((10 ^ k : Nat) : Int) from Int.natCast_pow 10 k] at this
  exact Int.ofNat_lt.mp this
theorem cp {j : Int} (h0 : 0 ≤ j) (h1 : j < 100) : CPow 10 j := ⟨h0, by omega, by decide⟩
theorem e50 : (100000000000000000000000000000000000000000000000000 : Int) = 10 ^ 50 := by decide +kernel
theorem e60 : (1000000000000000000000000000000000000000000000000000000000000 : Int) = 10 ^ 60 := by decide +kernel
theorem e40 : (10000000000000000000000000000000000000000 : Int) = 10 ^ 40 := by decide +kernel
theorem e49 : (10000000000000000000000000000000000000000000000000 : Int) = 10 ^ 49 := by decide +kernel
theorem e30 : (1000000000000000000000000000000 : Int) = 10 ^ 30 := by decide +kernel
theorem BN.ok50 {k : Nat} {a : Int} (h : BN k a) (hk : k ≤ 4000) : MulOk a 100000000000000000000000000000000000000000000000000 := by
  refine .inr ?_
  have h1 := h.log hk
  have h2 : (100000000000000000000000000000000000000000000000000 : Int).natAbs.log2 < 1000 := by decide +kernel
  show a.natAbs.log2 + _ < 1000000
  omega
theorem BN.ok {j k : Nat} {a b : Int} (h : BN k a) (hk : k ≤ 4000) (g : BN j b) (hj : j ≤ 4000) : MulOk a b := by
  refine .inr ?_
  have h1 := h.log hk
  have h2 := g.log hj
  show a.natAbs.log2 + b.natAbs.log2 < 1000000
  omega
section
variable {st q x : Addr} {n s : Nat} {K H : HpW} {Q : QW} {E : EW}
theorem sp_number (k : Kn K H st q) (h : ∀ (a : Int) H', BN 1960 a → Kn K H' st q → Q (.int a) H') : sem D.G (n + 2) "_law_number" [.ref st] H Q E := by
  refine ev fn__law_number rfl bo__law_number nv__law_number ?_
  simp [t__law_number]
  refine dr (n := n) (by omega) k fun r H1 r0 r1 k1 => ?_
  by_cases e : r < 2
  · simp [t__law_number_1, t__law_number_1a, e]
    refine dr (n := n) (by omega) k1 fun v H2 v0 v1 k2 => ends_rt (h v H2 ?_ k2)
    exact BN.mono (j := 1) ⟨v0, by omega⟩ (by decide)
  · simp [t__law_number_1, e]
    simp [t__law_number_2]
    refine ⟨cp (by decide) (by decide), drW (n := n) (by decide +kernel) k1 fun v H2 v0 v1 k2 => ?_⟩
    have bv : BN 60 v := ⟨v0, by rw [← e60]; omega⟩
    by_cases e5 : r = 5
    · simp [t__law_number_3, t__law_number_3a, e5]
      refine forI (xs := List.range 38) (fun i : Nat => W.int i) (fun d σ H' => H' = H2 ∧ ∃ a y, BN (60 + 50 * d.length) a ∧ σ = [some (.ref st), some (.int 5), some (.int a), y]) ⟨rfl, v, none, bv, rfl⟩ (fun _ _ _ _ => trivial) ?_ ?_
      · rintro σ H' ⟨rfl, a, y, ba, rfl⟩
        simp [t__law_number_4]
        exact ends_rt (h a H' (ba.mono (by simp)) k2)
      · rintro d i r' σ H' K' hd ⟨rfl, a, y, ba, rfl⟩ hK
        obtain ⟨rfl, hi⟩ := rng_at hd
        simp [t__law_number_3ac]
        refine ⟨cp (by decide) (by decide), ba.ok50 (by omega), hK _ _ ⟨rfl, _, _, ?_, rfl⟩⟩
        have := ba.mul 50
        rw [← e50] at this
        exact this.mono (by simp; omega)
    · simp [t__law_number_3, e5, t__law_number_4]
      exact ends_rt (h v H2 (bv.mono (by decide)) k2)
theorem sp_far (k : Kn K H st q) (kt : IsT K x s) (h : ∀ H', Kn K H' st q → Q (.bl true) H') : sem D.G (n + 4) "_law_far_right" [.ref st, .ref x] H Q E := by
  refine ev fn__law_far_right rfl bo__law_far_right nv__law_far_right ?_
  simp [t__law_far_right]
  refine ⟨cp (by decide) (by decide), cp (by decide) (by decide), drW (n := n + 2) (by decide +kernel) k fun v H2 v0 v1 k2 => ?_⟩
  have bv : BN 50 (10000000000000000000000000000000000000000000000000 + v) := ⟨by omega, by
    rw [← e50]
    have : v < 10000000000000000000000000000000000000000 := by omega
    omega⟩
  simp [t__law_far_right_1]
  refine dr (n := n + 2) (by omega) k2 fun r H3 r0 r1 k3 => ?_
  obtain ⟨r, rfl⟩ := Int.eq_ofNat_of_zero_le r0
  have er : ((40 : Int) + (r : Int)).toNat = 40 + r := by omega
  simp [er]
  refine ⟨⟨by omega, by omega⟩, ?_⟩
  refine forI (xs := List.range (40 + r)) (fun i : Nat => W.int i) (fun d σ H' => H' = H3 ∧ ∃ a y, BN (50 + 50 * d.length) a ∧ σ = [some (.ref st), some (.ref x), some (.int a), y]) ⟨rfl, _, none, bv, rfl⟩ (fun _ _ _ _ => trivial) ?_ ?_
  · rintro σ H' ⟨rfl, a, y, ba, rfl⟩
    have ba : BN 4000 a := ba.mono (by simp; omega)
    obtain ⟨m, rfl, hm⟩ := ba.nat
    obtain ⟨c, ci, lab, t, hx⟩ := kt
    have hx3 := k3.sub _ _ hx
    have lg := ba.log (by decide)
    simp [t__law_far_right_2, hx3, t.i.cl, t.mN, t.mA, talF]
    refine sp_tname (n := n + 2) lg ?_
    have lg' : m.log2 < 14284 := by simpa using lg
    have en : Str.ofString (m : Int).repr = numS m := rfl
    have en2 : Str.ofString (toString (m : Int)) = numS m := rfl
    rw [hx3]
    dsimp only
    simp [t.i.cl, t.mA, lg', en, en2, talF]
    refine sp_tatN (n := n + 2) hm ?_
    intro p hp p2 hp2
    obtain ⟨K4, s4, hp4, n4, k4⟩ := k3.add hp (o := .lst [.str (numS m), .int m])
    generalize updW H' p _ = H4 at hp2 k4 ⊢
    obtain ⟨K5, s5, hp5, n5, k5⟩ := k4.add hp2 (o := .lst [.str (numS m), .int m])
    generalize updW H4 p2 _ = H5 at k5 ⊢
    refine same (n := n + 1) (d := 1) (sameL (k5.sub _ _ (s5 _ _ hp4)) (k5.sub _ _ hp5) (by simp) (by simp [flatW])) ?_
    exact ⟨H5, Sub.refl, h H5 (k5.less (s4.trans s5))⟩
  · rintro d i r' σ H' K' hd ⟨rfl, a, y, ba, rfl⟩ hK
    obtain ⟨rfl, hi⟩ := rng_at hd
    simp [t__law_far_right_1c]
    refine ⟨cp (by decide) (by decide), ba.ok50 (by omega), hK _ _ ⟨rfl, _, _, ?_, rfl⟩⟩
    have := ba.mul 50
    rw [← e50] at this
    exact this.mono (by simp; omega)
end
end LawK05

namespace LawK05
open PySem PySem.Spec PyProof.Rows L2 Uw
section
variable {st q x : Addr} {n s : Nat} {K H : HpW} {Q : QW} {E : EW}
theorem sp_lwi {a b : Int} (hs : s < 3) (h : Q (.bl (wiT s a b)) H) : sem D.G (n + 1) "_law_within" [.int s, .int a, .int b] H Q E := by
  refine ev fn__law_within rfl bo__law_within nv__law_within ?_
  obtain rfl | rfl | rfl : s = 0 ∨ s = 1 ∨ s = 2 := by omega
  all_goals
    simp [wiT] at h
    simpa [t__law_within, t__law_withina, t__law_within_1, t__law_within_1a, t__law_within_2] using ends_rt h
theorem sp_lbo {a b : Int} (hs : s < 3) (h : Q (bnT s a b) H) : sem D.G (n + 2) "_law_bound" [.int s, .int a, .int b] H Q E := by
  refine ev fn__law_bound rfl bo__law_bound nv__law_bound ?_
  simp [t__law_bound]
  refine sp_lwi (n := n) hs ?_
  by_cases e : wiT s a b = true
  · simp [bnT, e] at h
    simpa [e, t__law_bounda] using ends_rt h
  · have e' : wiT s a b = false := by simpa using e
    simp [bnT, e'] at h
    simp [e', t__law_bound_1]
    refine sp_lwi (n := n) hs ?_
    by_cases f : wiT s b a = true
    · simp [f] at h
      simpa [f, t__law_bound_1a] using ends_rt h
    · have f' : wiT s b a = false := by simpa using f
      simp [f'] at h
      simpa [f', t__law_bound_2] using ends_rt h
theorem sp_unk (kt : IsT H x s) {word : Str} (hl : word.length ≤ 1000) (bad : ¬ okNum word) (h : Q (.bl true) H) : sem D.G (n + 4) "_law_unknown" [.ref x, .str word] H Q E := by
  refine ev fn__law_unknown rfl bo__law_unknown nv__law_unknown ?_
  obtain ⟨c, ci, lab, t, hx⟩ := kt
  have sz : sizeLine = 16777216 := rfl
  simp [t__law_unknown]
  intro p0 hp0
  have x0 : x ≠ p0 := fun e => by rw [← e, hx] at hp0; cases hp0
  have hx1 : updW H p0 (.lst []) x = some (.ins c (talF lab)) := by rw [updW_ne x0]; exact hx
  have s1 : Sub H (updW H p0 (.lst [])) := Sub.new hp0
  generalize updW H p0 (.lst []) = H1 at hx1 s1 ⊢
  simp [t__law_unknown_1, t__law_unknown_1t, hx1, t.i.cl, t.mA, talF]
  refine sp_tat (n := n + 2) (by omega) (fun _ => ?_) (fun k => absurd k bad)
  simp [t__law_unknown_1s]
  intro a dd ha hdd hne p hp
  have s2 := Sub.new (o := .xd [("name", .str word)]) hdd
  generalize updW H1 dd _ = H2 at hp s2 ⊢
  have s3 := Sub.new (o := .lst [.str word, .bl false]) hp
  have hp3 : updW H2 p (.lst [.str word, .bl false]) p = some (.lst [.str word, .bl false]) := updW_same
  generalize updW H2 p _ = H3 at s3 hp3 ⊢
  simp [t__law_unknown_2]
  intro p4 hp4
  have s4 := Sub.new (o := .lst [.str word, .bl false]) hp4
  refine same (n := n + 1) (d := 1) (sameL (s4 _ _ hp3) updW_same (by simp) (by simp [flatW])) ?_
  exact ends_rs (s1.trans (s2.trans (s3.trans s4))) h
theorem sp_end (kt : IsT H x s) (h : Q (.bl true) H) : sem D.G (n + 4) "_law_endless" [.ref x] H Q E := by
  refine ev fn__law_endless rfl bo__law_endless nv__law_endless ?_
  obtain ⟨c, ci, lab, t, hx⟩ := kt
  simp [t__law_endless]
  intro p0 hp0
  have x0 : x ≠ p0 := fun e => by rw [← e, hx] at hp0; cases hp0
  have hx1 : updW H p0 (.lst []) x = some (.ins c (talF lab)) := by rw [updW_ne x0]; exact hx
  have s1 : Sub H (updW H p0 (.lst [])) := Sub.new hp0
  generalize updW H p0 (.lst []) = H1 at hx1 s1 ⊢
  simp [t__law_endless_1, t__law_endless_1t, hx1, t.i.cl, t.mP, talF]
  refine sp_tplaces (n := n + 2) ?_
  simp [t__law_endless_1s]
  intro a ha p hp
  have s3 := Sub.new (o := .lst [.bl true, .bl true]) hp
  have hp3 : updW H1 p (.lst [.bl true, .bl true]) p = some (.lst [.bl true, .bl true]) := updW_same
  generalize updW H1 p _ = H3 at s3 hp3 ⊢
  simp [t__law_endless_2]
  intro p4 hp4
  have s4 := Sub.new (o := .lst [.bl true, .bl true]) hp4
  refine same (n := n + 1) (d := 1) (sameL (s4 _ _ hp3) updW_same (by simp) (by simp [flatW])) ?_
  exact ends_rs (s1.trans (s3.trans s4)) h
end
end LawK05

namespace LawK05
open PySem PySem.Spec PyProof.Rows L2 Uw
theorem at_strs {l : List Str} {r : Int} (h0 : 0 ≤ r) (h1 : r < l.length) : ∃ w ∈ l, atI (l.map W.str) r = some (.str w) := by
  obtain ⟨k, rfl⟩ := Int.eq_ofNat_of_zero_le h0
  have hk : k < l.length := by omega
  exact ⟨l[k], List.getElem_mem hk, atI_nat (by rw [List.getElem?_map, List.getElem?_eq_getElem hk]; rfl)⟩
section
variable {st q x : Addr} {s : Nat} {K H : HpW} {ns : List Int}
theorem body4 {a b : Int} (k : Kn K H st q) (kt : IsT K x s) (hs : s < 3) (ba : BN 1960 a) (bb : BN 1961 b) {D0 : EndsW} {y4 y5 y6 y9 y10 y11 y12 : Option W}
    (h : ∀ H' y9 y10 y11, Kn K H' st q → D0.nx [some (.scr ns), some (.ref st), some (.int s), some (.ref x), y4, y5, y6, some (.int a), some (.int b), y9, y10, y11, y12] H') :
    wS D.G (semP D.G 9) t_law_7c_4 D0 [some (.scr ns), some (.ref st), some (.int s), some (.ref x), y4, y5, y6, some (.int a), some (.int b), y9, y10, y11, y12] H := by
  obtain ⟨c, ci, lab, t, hx⟩ := id kt
  obtain ⟨wk, wf, w1, w2, w3, w4⟩ := t.wi
  obtain ⟨bk, bf, b1, b2, b3, b4⟩ := t.bo
  have hx1 := k.sub _ _ hx
  have lg := ba.log (by decide)
  obtain ⟨m, rfl, hm⟩ := ba.nat
  have hm4 : m < 10 ^ 4000 := Nat.lt_of_lt_of_le hm (Nat.pow_le_pow_right (by decide) (by decide))
  have lg' : m.log2 < 14284 := by simpa using lg
  have en : Str.ofString (m : Int).repr = numS m := rfl
  have en2 : Str.ofString (toString (m : Int)) = numS m := rfl
  have tf1 : NoAt "sum_at" (talF lab) := by simp [talF]
  have tf2 : NoAt "product_at" (talF lab) := by simp [talF]
  have tf3 : NoAt "within_at" (talF lab) := by simp [talF]
  have tf4 : NoAt "bound_at" (talF lab) := by simp [talF]
  have tf5 : NoAt "name_at" (talF lab) := by simp [talF]
  have tf6 : NoAt "at_name" (talF lab) := by simp [talF]
  have tf7 : NoAt "times_at" (talF lab) := by simp [talF]
  simp [t_law_7c_4, hx1, t.i.cl, t.mS, tf1]
  refine sp_tsum (n := 8) ?_
  simp [hx1, t.i.cl, t.mM, tf2]
  refine sp_tprod (n := 8) (ba.ok (by decide) bb (by decide)) ?_
  simp [hx1, t.i.cl, w1, w2, w3, tf3]
  refine w4 8 _ _ _ _ _ _ ?_
  simp [hx1, t.i.cl, w1, w2, w3, tf3]
  refine w4 8 _ _ _ _ _ _ ?_
  intro p hp
  obtain ⟨K2, s2, hp2, n2, k2⟩ := k.add hp (o := .lst [.int (m + b), .int (m * b), .bl (wiT s m b), .bl (wiT s b m)])
  generalize updW H p _ = H2 at k2 ⊢
  have hx2 := k2.sub _ _ (s2 _ _ hx)
  simp [t_law_7c_5]
  refine ⟨ba.ok (by decide) bb (by decide), sp_lwi (n := 8) hs (sp_lwi (n := 8) hs ?_)⟩
  intro p3 hp3
  obtain ⟨K3, s3, hp3', n3, k3⟩ := k2.add hp3 (o := .lst [.int (m + b), .int (m * b), .bl (wiT s m b), .bl (wiT s b m)])
  generalize updW H2 p3 _ = H3 at k3 ⊢
  have hx3 := k3.sub _ _ (s3 _ _ (s2 _ _ hx))
  simp [t_law_7c_6, hx3, t.i.cl, b1, b2, b3, tf4]
  refine b4 8 _ _ _ _ _ _ ?_
  simp [hx3, t.i.cl, t.mN, tf5]
  refine sp_tname (n := 8) lg ?_
  simp [hx3, t.i.cl, t.mA, tf6, lg', en, en2]
  refine sp_tatN (n := 8) hm4 ?_
  intro p4 hp4
  obtain ⟨K4, s4, hp4', n4, k4⟩ := k3.add hp4 (o := .lst [bnT s m b, .str (numS m), .int m])
  generalize updW H3 p4 _ = H4 at k4 ⊢
  have hpA := k4.sub _ _ (s4 _ _ (s3 _ _ hp2))
  have hpB := k4.sub _ _ hp4'
  rw [bg_l hpA]
  refine ⟨_, _, hpA, hpB, by show 4 + 3 ≤ sizeLine; decide, fun p5 hp5 => ?_⟩
  obtain ⟨K5, s5, hp5', n5, k5⟩ := k4.add hp5 (o := .lst ([.int (m + b), .int (m * b), .bl (wiT s m b), .bl (wiT s b m)] ++ [bnT s m b, .str (numS m), .int m]))
  generalize updW H4 p5 _ = H5 at k5 ⊢
  simp [t_law_7c_7]
  refine sp_lbo (n := 7) hs ?_
  simp [lg', en, en2]
  intro p6 hp6
  obtain ⟨K6, s6, hp6', n6, k6⟩ := k5.add hp6 (o := .lst [bnT s m b, .str (numS m), .int m])
  generalize updW H5 p6 _ = H6 at k6 ⊢
  have hpC := k6.sub _ _ (s6 _ _ (s5 _ _ (s4 _ _ hp3')))
  have hpD := k6.sub _ _ hp6'
  rw [bg_l hpC]
  refine ⟨_, _, hpC, hpD, by show 4 + 3 ≤ sizeLine; decide, fun p7 hp7 => ?_⟩
  obtain ⟨K7, s7, hp7', n7, k7⟩ := k6.add hp7 (o := .lst ([.int (m + b), .int (m * b), .bl (wiT s m b), .bl (wiT s b m)] ++ [bnT s m b, .str (numS m), .int m]))
  generalize updW H6 p7 _ = H7 at k7 ⊢
  have sK : Sub K K7 := s2.trans (s3.trans (s4.trans (s5.trans (s6.trans s7))))
  have hx7 := k7.sub _ _ (sK _ _ hx)
  simp [t_law_7c_8]
  refine ⟨cp (by decide) (by decide), ?_⟩
  simp [t_law_7c_9, hx7, t.i.cl, t.mT, tf7]
  refine sp_ttimes (n := 8) ?_
  refine same (n := 7) (d := 1) (.int _) ?_
  simp [t_law_7c_10]
  refine same (n := 7) (d := 1) (sameL (k7.sub _ _ (s7 _ _ (s6 _ _ hp5'))) (k7.sub _ _ hp7') (by simp) ?_) ?_
  · have e : flatW (bnT s m b) = true := by
      unfold bnT
      split
      · rfl
      · split <;> rfl
    show (([W.int (m + b), W.int (m * b), W.bl (wiT s m b), W.bl (wiT s b m)] ++ [bnT s m b, W.str (numS m), W.int m]).all flatW) = true
    simp only [List.cons_append, List.nil_append, List.all_cons, List.all_nil, e]
    rfl
  · exact h _ _ _ _ (k7.less sK)
/-- words that are no names -/
theorem bad_word {r : Nat} : ∀ w ∈ (["", "00", "-1", "+1", "1_0", " 1", "1 ", "many", Str.ofString "0" ++ numS r, "1/1"] : List Str), ¬ okNum w := by
  intro w hw
  simp only [List.mem_cons, List.not_mem_nil, or_false] at hw
  rcases hw with rfl | rfl | rfl | rfl | rfl | rfl | rfl | rfl | rfl | rfl
  · intro h; exact h.1 (by decide +kernel)
  · intro h; exact h.2.2.1 (by decide +kernel)
  · intro h; exact absurd (h.2.2.2 45 (by decide +kernel)) (by decide +kernel)
  · intro h; exact absurd (h.2.2.2 43 (by decide +kernel)) (by decide +kernel)
  · intro h; exact absurd (h.2.2.2 95 (by decide +kernel)) (by decide +kernel)
  · intro h; exact absurd (h.2.2.2 32 (by decide +kernel)) (by decide +kernel)
  · intro h; exact absurd (h.2.2.2 32 (by decide +kernel)) (by decide +kernel)
  · intro h; exact absurd (h.2.2.2 109 (by decide +kernel)) (by decide +kernel)
  · intro h
    refine h.2.2.1 ⟨?_, ?_⟩
    · have : (Str.ofString "0" ++ numS r).cps.toList = 48 :: (numS r).cps.toList := by
        show ((Str.ofString "0").cps ++ (numS r).cps).toList = _
        rw [Array.toList_append]
        rfl
      rw [this]; rfl
    · rw [Str.length_append]
      have := numS_pos r
      have e : (Str.ofString "0").length = 1 := by decide +kernel
      omega
  · intro h; exact absurd (h.2.2.2 47 (by decide +kernel)) (by decide +kernel)
theorem tail8 (k : Kn K H st q) (kt : IsT K x s) {y4 y5 y6 y7 y8 y9 y10 y11 y12 : Option W} :
    wS D.G (semP D.G 9) t_law_8 fin [some (.scr ns), some (.ref st), some (.int s), some (.ref x), y4, y5, y6, y7, y8, y9, y10, y11, y12] H := by
  obtain ⟨c, ci, lab, t, hx⟩ := id kt
  have hx1 := k.sub _ _ hx
  have sz : sizeLine = 16777216 := rfl
  have e0 : (Str.ofString "0") = numS 0 := by decide +kernel
  have e00 : Str.ofString (Int.repr 0) = numS 0 := by decide +kernel
  simp [t_law_8, hx1, t.i.cl, t.mN, talF]
  refine sp_tname (n := 8) (by decide) ?_
  simp [hx1, t.i.cl, t.mA, talF]
  rw [e0]
  refine sp_tatN (n := 8) (m := 0) (Nat.pow_pos (by decide)) ?_
  simp [hx1, t.i.cl, t.mT, talF]
  refine sp_ttimes (n := 8) ?_
  intro p hp p2 hp2
  rw [e00] at hp2 ⊢
  obtain ⟨K2, s2, hpA, n2, k2⟩ := k.add hp (o := .lst [.str (numS 0), .int 0, .int 0])
  generalize updW H p _ = H2 at hp2 k2 ⊢
  obtain ⟨K3, s3, hpB, n3, k3⟩ := k2.add hp2 (o := .lst [.str (numS 0), .int 0, .int 0])
  generalize updW H2 p2 _ = H3 at k3 ⊢
  refine same (n := 7) (d := 1) (sameL (k3.sub _ _ (s3 _ _ hpA)) (k3.sub _ _ hpB) (by simp) (by simp [flatW])) ?_
  have k4 := k3.less (s2.trans s3)
  simp [t_law_9]
  refine sp_end (n := 5) (kt.sub k4.sub) ?_
  simp [t_law_10]
  refine sp_far (n := 5) k4 kt fun H4 k5 => ?_
  simp [t_law_11]
  refine ⟨cp (by decide) (by decide), drW (n := 8) (by decide +kernel) k5 fun v H5 v0 v1 k6 => ?_⟩
  obtain ⟨v, rfl⟩ := Int.eq_ofNat_of_zero_le v0
  have bv : BN 31 ((1 : Int) + v) := ⟨by omega, by
    have : (v : Int) < 1000000000000000000000000000000 := by omega
    have e31 : (10000000000000000000000000000000 : Int) = 10 ^ 31 := by decide +kernel
    rw [← e31]
    omega⟩
  have lg := bv.log (by decide)
  have ev1 : (1 : Int) + (v : Int) = ((1 + v : Nat) : Int) := by omega
  have lgn : ((1 : Int) + (v : Int)).natAbs.log2 < 14284 := lg
  have ln := numS_le (n := 1 + v) (k := 31) (by decide) (by
    rw [ev1] at bv
    obtain ⟨m, em, hm⟩ := bv.nat
    have : 1 + v = m := by omega
    rw [this]; exact hm)
  have en : Str.ofString ((1 : Int) + (v : Int)).repr = numS (1 + v) := by rw [ev1]; rfl
  have l0 : (Str.ofString "0").length = 1 := by decide +kernel
  simp [lgn, en, l0]
  refine ⟨by omega, fun p4 hp4 => ?_⟩
  have bad := bad_word (r := 1 + v)
  have lens : ∀ w ∈ (["", "00", "-1", "+1", "1_0", " 1", "1 ", "many", Str.ofString "0" ++ numS (1 + v), "1/1"] : List Str), w.length ≤ 1000 := by
    intro w hw
    simp only [List.mem_cons, List.not_mem_nil, or_false] at hw
    rcases hw with rfl | rfl | rfl | rfl | rfl | rfl | rfl | rfl | rfl | rfl
    case inr.inr.inr.inr.inr.inr.inr.inr.inl =>
      rw [Str.length_append]
      omega
    all_goals decide +kernel
  obtain ⟨K7, s7, hpW, n7, k7⟩ := k6.add hp4 (o := .lst ((["", "00", "-1", "+1", "1_0", " 1", "1 ", "many", Str.ofString "0" ++ numS (1 + v), "1/1"] : List Str).map W.str))
  show wS D.G (semP D.G 9) t_law_12 fin _ (updW H5 p4 (.lst ((["", "00", "-1", "+1", "1_0", " 1", "1 ", "many", Str.ofString "0" ++ numS (1 + v), "1/1"] : List Str).map W.str)))
  generalize updW H5 p4 _ = H7 at k7 ⊢
  have len : (["", "00", "-1", "+1", "1_0", " 1", "1 ", "many", Str.ofString "0" ++ numS (1 + v), "1/1"] : List Str).length = 10 := rfl
  generalize (["", "00", "-1", "+1", "1_0", " 1", "1 ", "many", Str.ofString "0" ++ numS (1 + v), "1/1"] : List Str) = WS at *
  have kt7 := kt.sub s7
  simp [t_law_12, k7.sub _ _ hpW]
  refine dr (n := 8) (by omega) k7 fun r1 H8 q0 q1 k8 => ?_
  obtain ⟨w1, hw1, ea1⟩ := at_strs (l := WS) q0 (by omega)
  simp [k8.sub _ _ hpW, ea1]
  refine sp_unk (n := 5) (kt7.sub k8.sub) (lens _ hw1) (bad _ hw1) ?_
  simp [t_law_13, k8.sub _ _ hpW]
  refine dr (n := 8) (by omega) k8 fun r2 H9 q2 q3 k9 => ?_
  obtain ⟨w2, hw2, ea2⟩ := at_strs (l := WS) q2 (by omega)
  simp [k9.sub _ _ hpW, ea2]
  refine sp_unk (n := 5) (kt7.sub k9.sub) (lens _ hw2) (bad _ hw2) ?_
  exact ends_rt rfl
end
/-- the ends of the three -/
theorem mid5 {st q x : Addr} {s : Nat} {K H : HpW} {ns : List Int} {c : Str} {ci : ClsI} (hs : s < 3) (k : Kn K H st q) (t : TalC s c ci) (hx : K x = some (.ins c (talF (["(tally same)", "(tally up)", "(tally down)"].getD s "")))) {y4 y5 y6 y7 y8 y9 y10 y11 y12 : Option W} :
    wS D.G (semP D.G 9) t_law_5 fin [some (.scr ns), some (.ref st), some (.int s), some (.ref x), y4, y5, y6, y7, y8, y9, y10, y11, y12] H := by
  have hx1 := k.sub _ _ hx
  have kt : IsT K x s := ⟨c, ci, _, t, hx⟩
  have eA : atI (([.str "(tally same)", .str "(tally up)", .str "(tally down)"] : List W)) (s : Int) = some (.str (["(tally same)", "(tally up)", "(tally down)"].getD s "")) := by
    obtain rfl | rfl | rfl : s = 0 ∨ s = 1 ∨ s = 2 := by omega
    all_goals rfl
  generalize ["(tally same)", "(tally up)", "(tally down)"].getD s "" = lab at *
  simp [t_law_5, hx1, t.i.cl, t.i.f1, t.i.f2, t.i.f3, t.i.f4, talF]
  intro p hp
  obtain ⟨K2, s2, hpA, n2, k2⟩ := k.add hp (o := .lst [.non, .int 0, .int 1, .str lab])
  generalize updW H p _ = H2 at k2 ⊢
  simp [t_law_6]
  intro p2 hp2
  rw [eA]
  dsimp only
  obtain ⟨K3, s3, hpB, n3, k3⟩ := k2.add hp2 (o := .lst [.str "(tally same)", .str "(tally up)", .str "(tally down)"])
  generalize updW H2 p2 _ = H3 at k3 ⊢
  intro p3 hp3
  obtain ⟨K4, s4, hpC, n4, k4⟩ := k3.add hp3 (o := .lst [.non, .int 0, .int 1, .str lab])
  generalize updW H3 p3 _ = H4 at k4 ⊢
  refine same (n := 7) (d := 1) (sameL (k4.sub _ _ (s4 _ _ (s3 _ _ hpA))) (k4.sub _ _ hpC) (by simp) (by simp [flatW])) ?_
  have k5 := k4.less (s2.trans (s3.trans s4))
  simp [t_law_7]
  refine dr (n := 8) (by omega) k5 fun r H5 r0 r1 k6 => ?_
  simp
  refine ⟨⟨by omega, by omega⟩, ?_⟩
  refine for_inv (P := fun _ => True) (I := fun σ H' => Kn K H' st q ∧ ∃ y4 y5 y6 y7 y8 y9 y10 y11 y12, σ = [some (.scr ns), some (.ref st), some (.int s), some (.ref x), y4, y5, y6, y7, y8, y9, y10, y11, y12]) (fun _ _ => trivial) ⟨k6, _, _, _, _, _, _, _, _, _, rfl⟩ (fun _ _ _ => trivial) ?_ ?_
  · rintro σ H' ⟨k', y4, y5, y6, y7, y8, y9, y10, y11, y12, rfl⟩
    exact tail8 k' kt
  · rintro w σ H' K' _ ⟨k', y4, y5, y6, y7, y8, y9, y10, y11, y12, rfl⟩ hK
    simp [t_law_7c]
    refine dr (n := 8) (by omega) k' fun v H6 v0 v1 k7 => ?_
    simp [t_law_7c_1]
    refine sp_number (n := 7) k7 fun a H7 ba k8 => ?_
    simp [t_law_7c_2]
    refine sp_number (n := 7) k8 fun b H8 bb k9 => ?_
    have bb1 : BN 1961 b := bb.mono (by decide)
    by_cases e1 : v < 3
    · by_cases e2 : 0 < a + v
      · simp [t_law_7c_3, e1, e2, t_law_7c_3a]
        refine body4 k9 kt hs ba ?_ fun H' z9 z10 z11 k' => hK _ _ ⟨k', _, _, _, _, _, _, _, _, _, rfl⟩
        refine ⟨by omega, ?_⟩
        have h1 := ba.2
        have h2 : (10 : Int) ^ 1960 ≤ 10 ^ 1961 - 2 := by decide +kernel
        generalize (10 : Int) ^ 1960 = A at *
        generalize (10 : Int) ^ 1961 = B at *
        omega
      · simp [t_law_7c_3, e1, e2]
        exact body4 k9 kt hs ba bb1 fun H' z9 z10 z11 k' => hK _ _ ⟨k', _, _, _, _, _, _, _, _, _, rfl⟩
    · simp [t_law_7c_3, e1]
      exact body4 k9 kt hs ba bb1 fun H' z9 z10 z11 k' => hK _ _ ⟨k', _, _, _, _, _, _, _, _, _, rfl⟩
theorem law_ok {ns : List Int} (hn : ns.length ≤ 63) : sem D.G 10 "law" [.scr ns] K0 (fun v _ => v = .bl true) fun _ _ => False := by
  refine ev fn_law rfl bo_law nv_law ?_
  simp [t_law]
  refine kn_draws (n := 8) fn__law_draws ps__law_draws nv__law_draws bdraws hn fun st q H1 k1 => ?_
  simp [t_law_1]
  refine dr (n := 8) (by omega) k1 fun s H2 s0 s1 k2 => ?_
  obtain ⟨s, rfl⟩ := Int.eq_ofNat_of_zero_le s0
  have hs : s < 3 := by omega
  simp [t_law_2]
  intro x hx
  refine sp_tE (n := 5) updW_same ?_
  rw [updU]
  obtain ⟨K3, s3, hx3, n3, k3⟩ := k2.add hx (o := .ins "ExactTally" (talF "(tally same)"))
  generalize updW H2 x _ = H3 at k3 ⊢
  refine ⟨rfl, ?_⟩
  obtain rfl | rfl | rfl : s = 0 ∨ s = 1 ∨ s = 2 := by omega
  · simp [t_law_3, t_law_4]
    exact mid5 (s := 0) (by decide) k3 talE hx3
  · simp [t_law_3, t_law_3a, t_law_4]
    intro x4 hx4
    refine sp_tM (n := 5) updW_same ?_
    rw [updU]
    obtain ⟨K4, s4, hx4', n4, k4⟩ := k3.add hx4 (o := .ins "MostTally" (talF "(tally up)"))
    generalize updW H3 x4 _ = H4 at k4 ⊢
    refine ⟨rfl, ?_⟩
    simpa using mid5 (s := 1) (by decide) k4 talM hx4'
  · simp [t_law_3, t_law_4, t_law_4a]
    intro x4 hx4
    refine sp_tL (n := 5) updW_same ?_
    rw [updU]
    obtain ⟨K4, s4, hx4', n4, k4⟩ := k3.add hx4 (o := .ins "LeastTally" (talF "(tally down)"))
    generalize updW H3 x4 _ = H4 at k4 ⊢
    refine ⟨rfl, ?_⟩
    simpa using mid5 (s := 2) (by decide) k4 talL hx4'
theorem main : PySem.Challenge.rw_usescale_k05_tallies.Holds := holds_of (k := 10) ⟨rfl, by decide, by decide⟩ fun ns hn => law_ok hn
end LawK05

theorem PySem.Challenge.cw_usescale_k05_tallies_holds : PySem.Challenge.rw_usescale_k05_tallies.Holds := by
  exact LawK05.main
